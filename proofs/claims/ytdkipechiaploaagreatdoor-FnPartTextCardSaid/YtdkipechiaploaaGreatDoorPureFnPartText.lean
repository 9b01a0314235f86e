/- Proved here: the pure form of the law FnPartText (messages are read back) returns true for all arguments; conditions: none beyond those that the printed statement bears. -/
import Derived.Test.YtdkipechiaploaaGreatDoorPurFnPartText
namespace Go.Proofs.YtdkipechiaploaaGreatDoor.Pure
open Go.Proofs.YtdkipechiaploaaGreatDoorW.rW Go.RowKit Go.Proofs.YtdkipechiaploaaGreatDoor.X Go.Proofs.YtdkipechiaploaaGreatDoor.PFnPartText Go.Proofs.YtdkipechiaploaaGreatDoorW.dZ Go.Proofs.YtdkipechiaploaaGreatDoorW.nK Go.Proofs.YtdkipechiaploaaGreatDoor.Z
set_option linter.unusedVariables false
set_option linter.unusedSimpArgs false
theorem aex{s:Str}{x:Str×Str×List (Str×Str)}(h:pk s=some x):x.1.length≤1048576∧x.2.1.length≤1048576∧C_ x.2.2≤1048576∧x.2.2.length≤1048576:=by
 obtain⟨a,b,ps⟩:=x;have hv:=apa h;have h1:=Tz hv;have h2:=aiS ps [] h1.2.2.2.1
 have key:∀q:List (Str×Str),(∀p∈q,isSmall p.1=true∧nG p.2=true∧p.2.length≤40)→C_ q≤70*q.length:=by
  intro q
  induction q with
  |nil=>intro _;simp[C_]
  |cons c q ih=>
   intro h;have h3:=h c (by simp);have h4:=ih fun p hp=>h p (by simp[hp])
   have h5:=NY h3.1;rw[C_,List.length_cons];omega
 have h3:=key ps h2;have h4:=NY h1.1;have h5:=NY h1.2.1;refine⟨?_,?_,?_,?_⟩<;>(simp only;omega)
theorem Dl(fs:List (Str×Str))(hs:small fs)(hn:fs.length≤1048576)(bb:List ByteArray)(kk:List kE):Ev (fun k=>jh.f k (fs.map vW) bb kk) (aT (bF fs).1,(bF fs).2):=by
 unfold jh.f bF;rw[aaP];refine vb (JD fs ctype hs (by decide) hn) (vb (Tv _ (Ky fs ctype hs)) ?_)
 cases e:pk (DL fs ctype).1 with
 |none=>exact vn (by simp[Wi]) (vs _)
 |some x=>
  have hx:=aex e;exact vp rfl (vb (Qo x.1 x.2.1 x.2.2 hx.1 hx.2.1 hx.2.2.1 hx.2.2.2) (vs _))
theorem Bd(fs:List (Str×Str))(hs:small fs)(hn:fs.length≤1048576):Ev (fun k=>jX.f k (fs.map vW)) (aT (bF fs).1,(bF fs).2):=by
 unfold jX.f;rw[aaP];refine vb (JE fs ctype hs (by decide) hn) (vb (TD _ (Ky fs ctype hs)) ?_);unfold bF
 cases e:pk (DL fs ctype).1 with
 |none=>
  refine vb (GV [] [] [] (by simp) (by simp) (by simp[C_]) (by simp)) ?_
  cases (DL fs ctype).2 with
  |true=>exact vp rfl (vn (by simp[Wi]) (vs _))
  |false=>exact vn (by simp) (vs _)
 |some x=>
  have hx:=aex e;refine vb (GV x.1 x.2.1 x.2.2 hx.1 hx.2.1 hx.2.2.1 hx.2.2.2) ?_
  cases g:(DL fs ctype).2 with
  |true=>exact vp rfl (vp rfl (vs _))
  |false=>rw[aaF fs ctype g,azN]at e;cases e
def kl(g:Pt→Option (List Str)):List Pt→Option (List (List Str))
 |[]=>some []
 |p:: r=>match g p with
  |none=>none
  |some a=>(kl g r).map (a:: ·)
def tbs(b:List Str):Bool:=decide (b.length≤30)&&b.all nG
def head(f:List (Str×Str)):List Str:=folds f++[[]]
def lines:Nat→Pt→Option (List Str)
 |0,_=>none
 |d+1, .mk f b k=>if fvs f=true then(if(bF f).2=true then(if b=[]∧1≤k.length∧k.length≤4 then(match kl (lines d) k with
   |none=>none
   |some ls=>(jR (bF f).1 ls).map (head f++ ·))else none)else(if k=[]∧tbs b=true then some (head f++b)else none))else none
theorem agv{g:Pt→Option (List Str)}{N:Nat}:∀{k:List Pt} {ls:List (List Str)},kl g k=some ls→(∀p∈k,∀a,g p=some a→a.length≤N)→ls.length=k.length∧tl ls≤(N+1)*k.length
 |[],ls,h,_=>by
  rw[kl]at h;cases h;simp[tl]
 |p:: r,ls,h,hN=>by
  rw[kl]at h
  cases e:g p with
  |none=>rw[e]at h;cases h
  |some a=>
   rw[e]at h
   cases e2:kl g r with
   |none=>rw[e2]at h;cases h
   |some l=>
    rw[e2]at h;cases h;have h1:=agv e2 fun q hq=>hN q (by simp[hq])
    have h2:=hN p (by simp) a e;rw[List.length_cons,List.length_cons,tl,Nat.mul_succ];omega
def lN:Nat→Nat
 |0=>4000
 |d+1=>4*lN d+4000
theorem ape{d:Nat}(h:d≤3):lN d≤500000:=by
 rcases d with _|_|_|_|d
 ·decide
 ·decide
 ·decide
 ·decide
 ·omega
theorem agw{b:Str}{ps:List (List Str)}{s:List Str}(h:jR b ps=some s):s.length=tl ps+1:=by
 unfold jR at h;split at h
 ·cases h;rw[List.length_append,Zi];rfl
 ·cases h
theorem Zj{f:List (Str×Str)}(h:fvs f=true):(head f).length≤3661:=by
 have:=U7 f h;unfold head;rw[List.length_append,List.length_singleton];omega
theorem JH:∀(d:Nat) (p:Pt) (ls:List Str),lines d p=some ls→ls.length≤lN d
 |0,p,ls,h=>by rw[lines]at h;cases h
 |d+1, .mk f b k,ls,h=>by
  rw[lines]at h;by_cases c:fvs f=true
  ·rw[if_pos c]at h;have h1:=Zj c;by_cases c1:(bF f).2=true
   ·rw[if_pos c1]at h;by_cases c2:b=[]∧1≤k.length∧k.length≤4
    ·rw[if_pos c2]at h
     cases e:kl (lines d) k with
     |none=>rw[e]at h;cases h
     |some l=>
      rw[e]at h;simp only at h;have h2:=agv e (N:=lN d) fun p _ a h=>JH d p a h
      cases e2:jR (bF f).1 l with
      |none=>rw[e2]at h;cases h
      |some s=>
       rw[e2]at h;cases h;have h3:=agw e2;have h4:(lN d+1)*k.length≤(lN d+1)*4:=Nat.mul_le_mul_left _ c2.2.2;rw[List.length_append,lN];omega
    ·rw[if_neg c2]at h;cases h
   ·rw[if_neg c1]at h;by_cases c2:k=[]∧tbs b=true
    ·rw[if_pos c2]at h;cases h;have h2:=c2.2;unfold tbs at h2;simp only[Bool.and_eq_true,decide_eq_true_iff]at h2;rw[List.length_append,lN];omega
    ·rw[if_neg c2]at h;cases h
  ·rw[if_neg c]at h;cases h
theorem Qu(ls:List Str)(hs:∀x∈ls,x.length≤1048576)(hn:ls.length≤1048576)(r:List Str):∀p,ls=p++r→∃v:Int,Ev (fun k=>aY.l0 k (ls.map aT) (ls.length:Int) (p.length:Int)) v∧decide (v≥0)= !(r.all nG):=by
 induction r with
 |nil=>
  intro p h;have hz:ls.length=p.length:=by rw[h,List.append_nil]
  refine⟨-1,vc ?_,rfl⟩;simp only[aY.l0];exact vn (by omega) (vs _)
 |cons c r ih=>
  intro p h;have hz:=gZ h;have e1:=nX h;have hc:=hs c (by rw[h];simp);have w1:wrap64 ((p.length:Int)+1)=(p.length:Int)+1:=aQ (by omega) (by omega);obtain⟨v,hv,hv2⟩:=ih (p++[c]) (by rw[h];simp);rw[kS]at hv;have h1:Ev (fun k=>tJ.f k (aT c)) (!nG c):=vb (tu c (by omega)) (vs _)
  cases e:nG c with
  |true=>
   rw[e]at h1;refine⟨v,vc ?_,by rw[hv2,List.all_cons,e];rfl⟩;simp only[aY.l0,e1,w1,List.length_map];clear w1;exact vp (by omega) (vp (by omega) (vp (by omega) (vb h1 (vn (by simp) hv))))
  |false=>
   rw[e]at h1;refine⟨p.length,vc ?_,by rw[List.all_cons,e];simp⟩;simp only[aY.l0,e1,w1,List.length_map];clear w1;exact vp (by omega) (vp (by omega) (vp (by omega) (vb h1 (vp (by simp) (vs _)))))
theorem U8(ls:List Str)(hs:∀x∈ls,x.length≤1048576)(hn:ls.length≤1048576):Ev (fun k=>uH.f k (ls.map aT) 30) (tbs ls):=by
 unfold uH.f gI.f aY.f tbs;rw[List.length_map];by_cases c:ls.length≤30
 ·obtain⟨v,hv,hv2⟩:=Qu ls hs hn ls [] rfl;refine vp (by omega) (vb (vb hv (vs _)) (vq (vs _) ?_));rw[hv2,decide_eq_true c];simp
 ·refine vn (by omega) (vq (vs _) ?_);rw[decide_eq_false c];rfl
def lr(o:Option (List Str))(v:List ByteArray×Bool):Prop:=match o with
 |some ls=>v=(ls.map aT,true)
 |none=>v.2=false
theorem JI{f:List (Str×Str)}{b:List Str}{k:List Pt}(h:OD (.mk f b k)≤1048576):small f∧f.length≤1048576∧(∀x∈b,x.length≤1048576)∧b.length≤1048576∧k.length≤1048576∧∀p∈k,OD p≤1048576:=by
 rw[OD]at h;exact⟨JC (by omega),by omega,fun x hx=>by have:=acv hx;omega,by omega,by omega,fun p hp=>by have:=YX hp;omega⟩
theorem aey(f:List (Str×Str)):(folds f).map aT++[(⟨#[]⟩:ByteArray)]=(head f).map aT:=by
 unfold head;rw[List.map_append];rfl
theorem aez(acc:List (List Str))(l:List Str):acc.map (List.map aT)++[l.map aT]=(acc++[l]).map (List.map aT):=by rw[List.map_append];rfl
theorem K_:∀(d:Nat) (p:Pt),d≤3→OD p≤1048576→∃v,Ev (fun k=>aU.f k (e32 p).f0 (e32 p).f1 (e32 p).f2 (d:Int)) v∧lr (lines d p) v:=by
 have bad:∀(d:Int) (X:List ByteArray) (F:List eG) (B:List ByteArray) (K:List kE),Ev (fun k=>aU.j0 k d X true F B K) ([],false):=fun d X F B K=>by
  refine vc ?_;simp only[aU.j0];exact vp trivial (vs _)
 intro d
 induction d with
 |zero=>
  intro p hd hp;obtain⟨f,b,k⟩:=p;obtain⟨hf,hfn,-⟩:=JI hp;simp only[Gz];refine⟨([],false),vc ?_,rfl⟩;simp only[aU.f];refine vb (Bc f hf hfn) ?_;by_cases c:fvs f=true
  ·rw[if_pos c];exact vp rfl (bad _ _ _ _ _)
  ·rw[if_neg c];exact vn (by simp) (bad _ _ _ _ _)
 |succ d ih=>
  intro p hd hp;obtain⟨f,b,k⟩:=p;obtain⟨hf,hfn,hb,hbn,hkn,hk⟩:=JI hp;simp only[Gz];rw[lines];by_cases c:fvs f=true
  case neg=>
   rw[if_neg c];refine⟨([],false),vc ?_,rfl⟩;simp only[aU.f];refine vb (Bc f hf hfn) ?_;rw[if_neg c];exact vn (by simp) (bad _ _ _ _ _)
  rw[if_pos c];have hh:=Zj c;have hfo:=U7 f c
  have go:∀v,Ev (fun n=>if(bF f).2=true then(if(b.length:Int)>0 then aU.j1 n ((d+1:Nat):Int) ((head f).map aT) (aT (bF f).1) true (f.map vW) (b.map aT) (k.map e32)else(if(k.length:Int)<1 then aU.j1 n ((d+1:Nat):Int) ((head f).map aT) (aT (bF f).1) true (f.map vW) (b.map aT) (k.map e32)else aU.j1 n ((d+1:Nat):Int) ((head f).map aT) (aT (bF f).1) (decide ((k.length:Int)>4)) (f.map vW) (b.map aT) (k.map e32)))else(if((head f).map aT).length+(b.map aT).length<8796093022208 then(some ((head f).map aT++b.map aT:List ByteArray)).bind fun y=>(if(k.length:Int)=0 then((uH.f n (b.map aT) 30).bind fun t=>some (y,t))else some (y,false))else none)) v→Ev (fun n=>aU.f n (f.map vW) (b.map aT) (k.map e32) ((d+1:Nat):Int)) v:=by
   intro v hv;refine vc ?_;simp only[aU.f];refine vb (Bc f hf hfn) ?_;rw[if_pos c];refine vp rfl ?_;rw[show(((d+1:Nat):Int)==0)=false by simp;omega];refine vc ?_;simp only[aU.j0];refine vn (by simp) (vp (by rw[List.length_map];omega) (vb (vs _) (vb (Dl f hf hfn _ _) ?_)));rw[aey];simp only[List.length_map]at hv⊢;exact hv
  have agx:∀(X:List ByteArray) (B:ByteArray),Ev (fun n=>aU.j1 n ((d+1:Nat):Int) X B true (f.map vW) (b.map aT) (k.map e32)) ([],false):=fun X B=>by
   refine vc ?_;simp only[aU.j1];exact vp trivial (vs _)
  by_cases c1:(bF f).2=true
  ·rw[if_pos c1];by_cases c2:b=[]∧1≤k.length∧k.length≤4
   ·rw[if_pos c2];obtain⟨rfl,hk1,hk4⟩:=c2;have hbd:=GK (TQ c1);have hN:=ape (d:=d) (by omega)
    have key:∀(r p:List Pt) (acc:List (List Str)),k=p++r→acc.length=p.length→tl acc≤(lN d+1)*p.length→∃v,Ev (fun n=>aU.l0 n ((d+1:Nat):Int) ((head f).map aT) (aT (bF f).1) (acc.map (List.map aT)) (k.map e32) (k.length:Int) (p.length:Int)) v∧lr (match kl (lines d) r with
      |none=>none
      |some ls=>(jR (bF f).1 (acc++ls)).map (head f++ ·)) v:=by
     intro r
     induction r with
     |nil=>
      intro p acc h ha ht;have hz:k.length=p.length:=by rw[h,List.append_nil]
      have ht2:(lN d+1)*p.length≤(lN d+1)*4:=Nat.mul_le_mul_left _ (by omega);have hj:=TF acc (bF f).1 (by omega) (by omega);rw[kl];simp only[List.append_nil]
      cases e:jR (bF f).1 acc with
      |none=>
       rw[e]at hj;refine⟨((head f).map aT++[],false),vc ?_,rfl⟩;simp only[aU.l0];exact vn (by omega) (vb hj (vp (by rw[List.length_map];simp only[U5,List.length_nil];omega) (vs _)))
      |some s=>
       rw[e]at hj;have hs:=agw e;refine⟨((head f).map aT++s.map aT,true),vc ?_,by simp[lr]⟩;simp only[aU.l0];exact vn (by omega) (vb hj (vp (by rw[List.length_map];simp only[U5,List.length_map];omega) (vs _)))
     |cons q r ihr=>
      intro p acc h ha ht;have hz:=gZ h;have e1:=JA h;have w1:wrap64 ((p.length:Int)+1)=(p.length:Int)+1:=aQ (by omega) (by omega);have w2:wrap64 (((d+1:Nat):Int)-1)=(d:Int):=by rw[aQ (by omega) (by omega)];omega
      obtain⟨u,hu,hr⟩:=ih q (by omega) (hk q (by rw[h];simp));rw[kl]
      cases e:lines d q with
      |none=>
       rw[e]at hr;refine⟨([],false),vc ?_,rfl⟩;simp only[aU.l0,List.length_map,e1,w1,w2];clear w1 w2;exact vp (by omega) (vp (by omega) (vp (by omega) (vb hu (vn (by rw[show u.2=false from hr];simp) (vs _)))))
      |some a=>
       rw[e]at hr;have hr:u=(a.map aT,true):=hr;subst hr;have hla:=JH d q a e;obtain⟨v,hv,hv2⟩:=ihr (p++[q]) (acc++[a]) (by rw[h];simp) (by simp[ha]) (by rw[DJ,List.length_append,List.length_singleton,Nat.mul_add];simp only[tl];omega);rw[kS,←aez]at hv;refine⟨v,vc ?_,?_⟩
       ·simp only[aU.l0,List.length_map,e1,w1,w2];clear w1 w2;exact vp (by omega) (vp (by omega) (vp (by omega) (vb hu (vp rfl (vp (by omega) hv)))))
       ·simp only
        cases e2:kl (lines d) r with
        |none=>rw[e2]at hv2;exact hv2
        |some l=>
         rw[e2]at hv2
         simpa using hv2
    obtain⟨v,hv,hv2⟩:=key k [] [] rfl rfl (by simp[tl]);refine⟨v,go v (vp c1 (vn (by simp) (vn (by omega) ?_))),hv2⟩;rw[show decide ((k.length:Int)>4)=false from decide_eq_false (by omega)];refine vc ?_;simp only[aU.j1,List.length_map];exact vn (by simp) hv
   ·rw[if_neg c2];refine⟨([],false),go _ (vp c1 ?_),rfl⟩;by_cases c3:(b.length:Int)>0
    ·exact vp c3 (agx _ _)
    ·refine vn c3 ?_;have hb0:b=[]:=List.length_eq_zero_iff.mp (by omega);by_cases c4:(k.length:Int)<1
     ·exact vp c4 (agx _ _)
     ·refine vn c4 ?_
      rw[show decide ((k.length:Int)>4)=true from decide_eq_true (by
       apply Classical.byContradiction;intro h;exact c2 ⟨hb0,by omega,by omega⟩)]
      exact agx _ _
  ·rw[if_neg c1];have hlen:((head f).map aT).length+(b.map aT).length<8796093022208:=by simp only[List.length_map];omega
   by_cases c3:k=[]
   ·subst c3;refine⟨((head f).map aT++b.map aT,tbs b),go _ (vn c1 (vp hlen (vb (vs _) (vp rfl (vb (U8 b hb hbn) (vs _)))))),?_⟩
    cases e:tbs b with
    |true=>simp[lr]
    |false=>simp[lr]
   ·have hk0:¬(k.length:Int)=0:=fun h=>c3 (List.length_eq_zero_iff.mp (by omega))
    refine⟨((head f).map aT++b.map aT,false),go _ (vn c1 (vp hlen (vb (vs _) (vn hk0 (vs _))))),?_⟩;rw[if_neg (fun h=>c3 h.1)];rfl
theorem IJ(p:Pt)(hp:OD p≤1048576):Ev (fun k=>nS.f k (e32 p).f0 (e32 p).f1 (e32 p).f2) (lines 3 p).isSome:=by
 unfold nS.f;obtain⟨v,hv,hr⟩:=K_ 3 p (by omega) hp;refine vb hv (vq (vs _) ?_)
 cases e:lines 3 p with
 |none=>rw[e]at hr;exact hr
 |some ls=>
  rw[e]at hr;rw[show v=_ from hr];rfl
theorem JJ:∀(d:Nat) (p:Pt) (ls:List Str),d≤3→OD p≤1048576→lines d p=some ls→Ev (fun k=>jF.f k (e32 p).f0 (e32 p).f1 (e32 p).f2) (ls.map aT):=by
 intro d
 induction d with
 |zero=>intro p ls hd hp h;rw[lines]at h;cases h
 |succ d ih=>
  intro p ls hd hp h;obtain⟨f,b,k⟩:=p;obtain⟨hf,hfn,hb,hbn,hkn,hk⟩:=JI hp;simp only[Gz];rw[lines]at h;by_cases c:fvs f=true
  case neg=>rw[if_neg c]at h;cases h
  rw[if_pos c]at h;have hh:=Zj c;have hfo:=U7 f c;refine vc ?_;simp only[jF.f];refine vb (Qs f hf hfn) ?_;rw[if_pos c];refine vp (by rw[List.length_map];omega) (vb (vs _) (vb (Bd f hf hfn) ?_));simp only[aey];by_cases c1:(bF f).2=true
  ·rw[if_pos c1]at h;by_cases c2:b=[]∧1≤k.length∧k.length≤4
   case neg=>rw[if_neg c2]at h;cases h
   rw[if_pos c2]at h;obtain⟨rfl,hk1,hk4⟩:=c2;have hbd:=GK (TQ c1);have hN:=ape (d:=d) (by omega)
   cases e:kl (lines d) k with
   |none=>rw[e]at h;cases h
   |some l=>
   rw[e]at h;simp only at h
   cases e2:jR (bF f).1 l with
   |none=>rw[e2]at h;cases h
   |some s=>
   rw[e2]at h;cases h
   have key:∀(r p:List Pt) (acc m:List (List Str)),k=p++r→acc.length=p.length→tl acc≤(lN d+1)*p.length→kl (lines d) r=some m→l=acc++m→Ev (fun n=>jF.l0 n ((head f).map aT) (aT (bF f).1) (acc.map (List.map aT)) (p.length:Int) (f.map vW) (([]:List Str).map aT) (k.map e32)) ((head f++s).map aT):=by
    intro r
    induction r with
    |nil=>
     intro p acc m h ha ht hm hl;have hz:k.length=p.length:=by rw[h,List.append_nil]
     have ht2:(lN d+1)*p.length≤(lN d+1)*4:=Nat.mul_le_mul_left _ (by omega);rw[kl]at hm;cases hm;rw[List.append_nil]at hl;subst hl;have hj:=TJ l (bF f).1 (by omega) (by omega);rw[e2]at hj;have hs:=agw e2;refine vc ?_;simp only[jF.l0,List.length_map];exact vn (by omega) (vb hj (vp (by simp only[U5,List.length_map];omega) (vq (vs _) (by simp[U5]))))
    |cons q r ihr=>
     intro p acc m h ha ht hm hl;have hz:=gZ h;have e1:=JA h;have w1:wrap64 ((p.length:Int)+1)=(p.length:Int)+1:=aQ (by omega) (by omega);rw[kl]at hm
     cases e3:lines d q with
     |none=>rw[e3]at hm;cases hm
     |some a=>
     rw[e3]at hm
     cases e4:kl (lines d) r with
     |none=>rw[e4]at hm;cases hm
     |some m2=>
     rw[e4]at hm;cases hm;have hu:=ih q a (by omega) (hk q (by rw[h];simp)) e3;have hla:=JH d q a e3;have hv:=ihr (p++[q]) (acc++[a]) m2 (by rw[h];simp) (by simp[ha]) (by rw[DJ,List.length_append,List.length_singleton,Nat.mul_add];simp only[tl];omega) e4 (by rw[hl];simp);rw[kS,←aez]at hv;refine vc ?_;simp only[jF.l0,List.length_map,e1,w1];clear w1;exact vp (by omega) (vp (by omega) (vb hu (vp (by omega) hv)))
   exact vp c1 (key k [] [] l rfl rfl (by simp[tl]) e rfl)
  ·rw[if_neg c1]at h;by_cases c2:k=[]∧tbs b=true
   case neg=>rw[if_neg c2]at h;cases h
   rw[if_pos c2]at h;cases h;refine vn c1 (vp (by simp only[List.length_map];omega) (vq (vs _) ?_));rw[List.map_append]
theorem U9(ls:List Str)(hs:∀x∈ls,x.length≤1048576)(hn:ls.length≤1048576)(r:List Str):∀p,ls=p++r→Ev (fun k=>jo.l0 k (ls.map aT) (p.length:Int)) (decide (ls.length≤30)&&r.all nG):=by
 have out:∀i:Int,Ev (fun k=>jo.j1 k (ls.map aT) i false) (decide (ls.length≤30)):=fun i=>by
  refine vc ?_;simp only[jo.j1,List.length_map];refine vn (by simp) (vq (vs _) ?_);exact decide_eq_decide.mpr (by omega)
 induction r with
 |nil=>
  intro p h;have hz:ls.length=p.length:=by rw[h,List.append_nil]
  refine vc ?_;simp only[jo.l0,List.length_map];refine vn (by omega) (vq (out _) (by simp))
 |cons c r ih=>
  intro p h;have hz:=gZ h;have e1:=nX h;have hc:=hs c (by rw[h];simp);have w1:wrap64 ((p.length:Int)+1)=(p.length:Int)+1:=aQ (by omega) (by omega);have hv:=ih (p++[c]) (by rw[h];simp);rw[kS]at hv;have h1:=nH c (by omega);refine vc ?_;simp only[jo.l0,List.length_map];refine vp (by omega) ?_;by_cases c2:p.length≤30
  ·rw[show decide ((p.length:Int)≤30)=true from decide_eq_true (by omega)];refine vc ?_;simp only[jo.j1,List.length_map,e1,w1];clear w1;refine vp trivial (vp (by omega) (vp (by omega) (vb h1 ?_)))
   cases e:nG c with
   |true=>exact vp rfl (vq hv (by rw[List.all_cons,e,Bool.true_and]))
   |false=>exact vn (by simp) (vq (vs _) (by rw[List.all_cons,e];simp))
  ·rw[show decide ((p.length:Int)≤30)=false from decide_eq_false (by omega)];exact vq (out _) (by rw[decide_eq_false (by omega)];rfl)
theorem NZ(ls:List Str)(hs:∀x∈ls,x.length≤1048576)(hn:ls.length≤1048576):Ev (fun k=>jo.f k (ls.map aT)) (tbs ls):=U9 ls hs hn ls [] rfl
theorem agy(b:Str)(hb:b.length≤100)(d x7:Int)(F:List eG)(B:List ByteArray)(K:List kE)(ls:List Str)(hn:ls.length≤1048576)(V:Bool)(h1:dv ls b=true→V=false)(h2:dv ls b=false→Ev (fun n=>bI.l0 n d (aT b) (wrap64 (x7+1)) F B K) V):Ev (fun n=>bI.l1 n d (aT b) x7 (ls.map aT) 0 F B K) V:=by
 rw[aeu]at h1 h2
 have key:∀(r p:List Str),ls=p++r→(r.any (fun l=>lk l b)=true→V=false)→(r.any (fun l=>lk l b)=false→Ev (fun n=>bI.l0 n d (aT b) (wrap64 (x7+1)) F B K) V)→Ev (fun n=>bI.l1 n d (aT b) x7 (ls.map aT) (p.length:Int) F B K) V:=by
  intro r
  induction r with
  |nil=>
   intro p h g1 g2;have hz:ls.length=p.length:=by rw[h,List.append_nil]
   refine vc ?_;simp only[bI.l1,List.length_map];exact vn (by omega) (g2 rfl)
  |cons c r ih=>
   intro p h g1 g2;have hz:=gZ h;have e1:=nX h;have w1:wrap64 ((p.length:Int)+1)=(p.length:Int)+1:=aQ (by omega) (by omega);refine vc ?_;simp only[bI.l1,List.length_map,e1,w1];clear w1;refine vp (by omega) (vp (by omega) (jD (KZ c b (by omega)) ?_))
   cases e:lk c b with
   |true=>
    refine vp rfl (vq (vs _) (g1 ?_).symm);rw[List.any_cons,e];rfl
   |false=>
    have:=ih (p++[c]) (by rw[h];simp) (fun g=>g1 (by rw[List.any_cons,e];exact g)) (fun g=>g2 (by rw[List.any_cons,e];exact g));rw[kS]at this;exact vn (by simp) this
 exact key ls [] rfl h1 h2
theorem Ws:∀(d:Nat) (p:Pt),d≤3→OD p≤1048576→Ev (fun k=>bI.f k (e32 p).f0 (e32 p).f1 (e32 p).f2 (d:Int)) (lines d p).isSome:=by
 have bad:∀(d:Int) (F:List eG) (B:List ByteArray) (K:List kE),Ev (fun k=>bI.j0 k d true F B K) false:=fun d F B K=>by
  refine vc ?_;simp only[bI.j0];exact vp trivial (vs _)
 intro d
 induction d with
 |zero=>
  intro p hd hp;obtain⟨f,b,k⟩:=p;obtain⟨hf,hfn,-⟩:=JI hp;simp only[Gz];refine vc ?_;simp only[bI.f];refine vb (EK f hf hfn) ?_;by_cases c:fvs f=true
  ·exact vp c (bad _ _ _ _)
  ·exact vn c (bad _ _ _ _)
 |succ d ih=>
  intro p hd hp;obtain⟨f,b,k⟩:=p;obtain⟨hf,hfn,hb,hbn,hkn,hk⟩:=JI hp;simp only[Gz];rw[lines];refine vc ?_;simp only[bI.f];refine vb (EK f hf hfn) ?_;by_cases c:fvs f=true
  case neg=>
   rw[if_neg c];exact vn c (bad _ _ _ _)
  rw[if_pos c];refine vp c ?_;rw[show decide (((d+1:Nat):Int)<1)=false from decide_eq_false (by omega)];refine vc ?_;simp only[bI.j0,List.length_map];refine vn (by simp) (vb (Bd f hf hfn) ?_)
  have agx:∀(B:ByteArray),Ev (fun n=>bI.j1 n ((d+1:Nat):Int) B true (f.map vW) (b.map aT) (k.map e32)) false:=fun B=>by
   refine vc ?_;simp only[bI.j1];exact vp trivial (vs _)
  by_cases c1:(bF f).2=true
  ·rw[if_pos c1];refine vp c1 ?_;by_cases c2:b=[]∧1≤k.length∧k.length≤4
   ·rw[if_pos c2];obtain⟨rfl,hk1,hk4⟩:=c2;have hbs:=TQ c1;have hbd:=GK hbs;have hN:=ape (d:=d) (by omega)
    have key:∀(r p:List Pt),k=p++r→Ev (fun n=>bI.l0 n ((d+1:Nat):Int) (aT (bF f).1) (p.length:Int) (f.map vW) (([]:List Str).map aT) (k.map e32)) (match kl (lines d) r with
      |none=>false
      |some ls=>!ls.any (fun c=>dv c (bF f).1)):=by
     intro r
     induction r with
     |nil=>
      intro p h;have hz:k.length=p.length:=by rw[h,List.append_nil]
      refine vc ?_;simp only[bI.l0,List.length_map];exact vn (by omega) (vs _)
     |cons q r ihr=>
      intro p h;have hz:=gZ h;have e1:=JA h;have w1:wrap64 ((p.length:Int)+1)=(p.length:Int)+1:=aQ (by omega) (by omega);have w2:wrap64 (((d+1:Nat):Int)-1)=(d:Int):=by rw[aQ (by omega) (by omega)];omega
      have hu:=ih q (by omega) (hk q (by rw[h];simp));have hv:=ihr (p++[q]) (by rw[h];simp);rw[kS,←w1]at hv;refine vc ?_;simp only[bI.l0,List.length_map,e1,w2];clear w1 w2;refine vp (by omega) (vp (by omega) (vb hu ?_));rw[kl]
      cases e:lines d q with
      |none=>exact vn (by simp) (vs _)
      |some a=>
       have hg:=JJ d q a (by omega) (hk q (by rw[h];simp)) e;have hla:=JH d q a e;refine vp rfl (vb hg (agy _ (by omega) _ _ _ _ _ a (by omega) _ (fun g=>?_) (fun g=>vq hv ?_)))
       ·cases kl (lines d) r with
        |none=>rfl
        |some m=>simp[g]
       ·cases kl (lines d) r with
        |none=>rfl
        |some m=>simp[g]
    refine vn (by simp) (vn (by omega) ?_);rw[show decide ((k.length:Int)>4)=false from decide_eq_false (by omega)];refine vc ?_;simp only[bI.j1];refine vn (by simp) (vq (key k [] rfl) ?_)
    cases e:kl (lines d) k with
    |none=>rfl
    |some ls=>
     have hl:=(agv e (N:=lN d) fun p _ a h=>JH d p a h).1;have h0:ls≠[]:=fun h=>by rw[h]at hl;simp at hl;omega
     show(!ls.any (fun c=>dv c (bF f).1))=((jR (bF f).1 ls).map (head f++ ·)).isSome
     unfold jR
     cases ls.any (fun c=>dv c (bF f).1)with
     |true=>rw[if_neg (fun h=>by have:=h.2.2;cases this)];rfl
     |false=>rw[if_pos ⟨hbs,h0,rfl⟩];rfl
   ·rw[if_neg c2];by_cases c3:(b.length:Int)>0
    ·exact vp c3 (agx _)
    ·refine vn c3 ?_;have hb0:b=[]:=List.length_eq_zero_iff.mp (by omega);by_cases c4:(k.length:Int)<1
     ·exact vp c4 (agx _)
     ·refine vn c4 ?_
      rw[show decide ((k.length:Int)>4)=true from decide_eq_true (by
       apply Classical.byContradiction;intro h;exact c2 ⟨hb0,by omega,by omega⟩)]
      exact agx _
  ·rw[if_neg c1];refine vn c1 ?_;by_cases c3:k=[]
   ·subst c3;refine vp rfl (vb (NZ b hb hbn) (vq (vs _) ?_))
    cases e:tbs b with
    |true=>simp
    |false=>simp
   ·have hk0:¬(k.length:Int)=0:=fun h=>c3 (List.length_eq_zero_iff.mp (by omega))
    refine vn hk0 ?_;rw[if_neg (fun h=>c3 h.1)];exact vs _
theorem IK(p:Pt)(hp:OD p≤1048576):Ev (fun k=>nR.f k (e32 p).f0 (e32 p).f1 (e32 p).f2) (lines 3 p).isSome:=by
 unfold nR.f;exact vb (Ws 3 p (by omega) hp) (vs _)
def hx(n:UInt8):UInt8:=if n<10 then 48+n else 55+n
def cdB(c:UInt8):Str:=if c=32 then[95]else if(Hw c||decide (c=45)||decide (c=46))=true then[c]else[61,hx (c/16),hx (c%16)]
def cd:Str→Str
 |[]=>[]
 |c:: r=>cdB c++cd r
def cb:Str:=[61,63,117,116,102,45,56,63,113,63]
def ce:Str:=[63,61]
def cw(b:Str):Str:=cb++cd b++ce
def cwO(b:Str):Option Str:=if b=[]∨b.length>40∨(cw b).length>40 then none else some (cw b)
theorem ajV(a b:Str):cd (a++b)=cd a++cd b:=by
 induction a with
 |nil=>rfl
 |cons c a ih=>simp only[List.cons_append,cd,ih,List.append_assoc]
theorem aiX(c:UInt8):1≤(cdB c).length∧(cdB c).length≤3:=by
 unfold cdB;split
 ·exact⟨by simp,by simp⟩
 ·split<;>exact⟨by simp,by simp⟩
theorem apf(b:Str):b.length≤(cd b).length∧(cd b).length≤3*b.length:=by
 induction b with
 |nil=>exact⟨Nat.le_refl _,Nat.le_refl _⟩
 |cons c r ih=>have:=aiX c;simp only[cd,List.length_append,List.length_cons];omega
theorem azO(b:Str):(cw b).length=(cd b).length+12:=by
 unfold cw cb ce;simp
def vl(c:UInt8):Int:=if 48≤c∧c≤57 then((c-48).toNat:Int)else if 65≤c∧c≤70 then((c-55).toNat:Int)else-1
theorem apg{b s:Str}(h:cwO b=some s):s=cw b∧b≠[]∧b.length≤40∧s.length≤40:=by
 unfold cwO at h;split at h
 ·cases h
 ·rename_i hn
  cases h;refine⟨rfl,fun e=>hn (Or.inl e),?_,?_⟩<;>omega
open Classical in
noncomputable def rcw (s:Str):Option Str:=if h:∃b,cwO b=some s then some (Classical.choose h)else none
def aph:Option Str→ByteArray×Bool
 |none=>(aT [],false)
 |some s=>(aT s,true)
def spl:Str→List Str
 |[]=>[[]]
 |c:: r=>if c=32 then[]:: spl r else hd1 c (spl r)
noncomputable def dgo:List Str→Bool→Bool→Str→Str
 |[],_,_,out=>out
 |x:: r,later,coded,out=>dgo r true (rcw x).isSome (out++(if later=true∧¬(coded=true∧(rcw x).isSome=true)then[32]else[])++(rcw x).getD x)
noncomputable def dn (s:Str):Option Str:=if s.length>600 then none else(let o:=dgo (spl s) false false [];if o.length>120 then none else some o)
theorem Zk(c:UInt8):BF.f (c.toNat:Int)=some (aT (cdB c)):=by
 revert c
 exact Y8 (by decide+kernel)
theorem N7(b:Str)(hb:b.length≤1048576):Ev (fun k=>kR.f k (aT b)) (aT (cd b)):=by
 have key:∀(r p:Str),b=p++r→Ev (fun k=>kR.l0 k (aT b) (aT (cd p)) (p.length:Int)) (aT (cd b)):=by
  intro r
  induction r with
  |nil=>
   intro p h;rw[List.append_nil]at h;subst h;refine vc ?_;simp only[kR.l0,ay];exact vn (by omega) (vs _)
  |cons c r ih=>
   intro p h;have hz:=gZ h;have e1:=ku h;have w1:wrap64 ((p.length:Int)+1)=((p++[c]).length:Int):=(aQ (by omega) (by omega)).trans (by simp);have:=ih (p++[c]) (by rw[h];simp);rw[ajV]at this;have l1:=apf p;have l2:=aiX c;refine vc ?_;simp only[kR.l0,e1,w1,ay,Zk,Option.bind_some,kV];clear e1 w1;refine vp (by omega) (vp (by omega) (vp (by omega) ?_))
   simpa [cd] using this
 unfold kR.f;exact key b [] rfl
theorem U_(b:Str)(hb:b.length≤1048576):Ev (fun k=>jy.f k (aT b)) (aph (cwO b)):=by
 have h:=N7 b hb
 have bad:Ev (fun k=>jy.j0 k (aT b) true) (aph none):=by
  refine vc ?_;simp only[jy.j0];exact vp trivial (vq (vs _) rfl)
 unfold jy.f cwO;rw[ay];by_cases h1:b=[]
 ·rw[if_pos (show b=[]∨b.length>40∨(cw b).length>40 from Or.inl h1)];exact vp (by rw[h1];decide) bad
 ·have hn:0<b.length:=List.length_pos_iff.mpr h1;refine vn (by omega) ?_;by_cases h2:b.length>40
  ·rw[if_pos (show b=[]∨b.length>40∨(cw b).length>40 from Or.inr (Or.inl h2)),decide_eq_true (by omega:(b.length:Int)>40)];exact bad
  ·rw[decide_eq_false (by omega:¬(b.length:Int)>40)];have l1:=apf b;have e61:(⟨#[61,63,117,116,102,45,56,63,113,63]⟩:ByteArray)=aT cb:=rfl;have e63:(⟨#[63,61]⟩:ByteArray)=aT ce:=rfl;have e4:cb++cd b++ce=cw b:=rfl;have l2:=azO b;refine vc ?_;simp only[jy.j0,e61,e63];refine vn (by simp) (vb h ?_);simp only[ay,kV,e4];refine vp (by omega) (vp (by rw[List.length_append,show cb.length=10 from rfl];omega) ?_);by_cases h3:(cw b).length>40
   ·rw[if_pos (show b=[]∨b.length>40∨(cw b).length>40 from Or.inr (Or.inr h3))];exact vp (by omega) (vq (vs _) rfl)
   ·rw[if_neg (show¬(b=[]∨b.length>40∨(cw b).length>40)from fun hh=>hh.elim h1 (fun hh=>hh.elim h2 h3))];exact vn (by omega) (vq (vs _) rfl)
def fit(o:Str):Option Str:=if o.length>120 then none else some o
theorem TR(s:Str)(hs:s.length≤1048576):∃nc:Bool,Ev (fun k=>iJ.f k (aT s)) nc:=by
 have key:∀(d i:Nat),s.length-i=d→i≤s.length→∃nc:Bool,Ev (fun k=>iJ.l0 k (aT s) (i:Int)) nc:=by
  have fin:∃nc:Bool,Ev (fun k=>(aW.f k (aT s)).bind fun aOp=>(if aOp=true then((bG.f k (aT s)).bind fun t105=>(if t105.toList=(aT s).toList then(some (decide (((aT s).size:Int)>120)))else(some true)))else(some true))) nc:=by
   cases h1:nG s with
   |false=>exact⟨true,vb (nH s (by omega)) (vn (by simp[h1]) (vs _))⟩
   |true=>
    by_cases h2:(aT (trim s)).toList=(aT s).toList
    ·exact⟨_,vb (nH s (by omega)) (vp h1 (vb (qR s hs) (vp h2 (vs _))))⟩
    ·exact⟨true,vb (nH s (by omega)) (vp h1 (vb (qR s hs) (vn h2 (vs _))))⟩
  intro d
  induction d with
  |zero=>
   intro i hd hi;obtain⟨nc,hn⟩:=fin;refine⟨nc,vc ?_⟩;simp only[iJ.l0];have w1:wrap64 ((i:Int)+1)=(i:Int)+1:=aQ (by omega) (by omega);rw[w1];exact vn (by rw[ay];omega) hn
  |succ d ih=>
   intro i hd hi;have w1:wrap64 ((i:Int)+1)=((i+1:Nat):Int):=(aQ (by omega) (by omega)).trans (by omega);by_cases h1:i+1<s.length
   ·obtain⟨nc,hn⟩:=ih (i+1) (by omega) (by omega);by_cases h2:(bt (aT s) (i:Int))=61
    ·by_cases h3:(bt (aT s) ((i+1:Nat):Int))=63
     ·refine⟨true,vc ?_⟩;simp only[iJ.l0,w1,ay];exact vp (by omega) (vp (by omega) (vp (by omega) (vp h2 (vp (by omega) (vp h3 (vs _))))))
     ·refine⟨nc,vc ?_⟩;simp only[iJ.l0,w1,ay];exact vp (by omega) (vp (by omega) (vp (by omega) (vp h2 (vp (by omega) (vn h3 hn)))))
    ·refine⟨nc,vc ?_⟩;simp only[iJ.l0,w1,ay];exact vp (by omega) (vp (by omega) (vp (by omega) (vn h2 hn)))
   ·obtain⟨nc,hn⟩:=fin;refine⟨nc,vc ?_⟩;simp only[iJ.l0,w1];exact vn (by rw[ay];omega) hn
 unfold iJ.f;exact key s.length 0 rfl (by omega)
theorem ajW(b:Str):∃u:Str,(aph (cwO b)).1=aT u∧u.length≤40:=by
 cases e:cwO b with
 |none=>exact⟨[],rfl,by simp⟩
 |some s=>exact⟨s,rfl,(apg e).2.2.2⟩
theorem Qv(b:Str)(hb:b.length≤1048576):∃(s:Str) (ok:Bool),Ev (fun k=>bM.f k (aT b)) (aT s,ok)∧s.length≤10000:=by
 unfold bM.f;rw[ay];by_cases h:b.length>120
 ·exact⟨[],false,vp (by omega) (vq (vs _) rfl),by simp⟩
 ·obtain⟨nc,hn⟩:=TR b hb
  cases nc with
  |false=>exact⟨b,true,vn (by omega) (vb hn (vn (by simp) (vs _))),by omega⟩
  |true=>
   have ext:∀i j:Nat,(aT b).extract i j=aT ((b.drop i).take (j-i)):=fun i j=>jL b i j
   have key:∀(m i:Nat) (out:Str),b.length-i≤m→i≤b.length→out.length≤50*i→∃s:Str,Ev (fun k=>bM.l0 k (aT b) (aT out) (i:Int)) (aT s,true)∧s.length≤10000:=by
    intro m
    induction m with
    |zero=>
     intro i out hm hi ho;refine⟨out,vc ?_,by omega⟩;simp only[bM.l0,ay];exact vn (by omega) (vs _)
    |succ m ih=>
     intro i out hm hi ho;by_cases hlt:i<b.length
     ·have inner:∀(d j:Nat),b.length-j=d→i<j→j≤b.length→∃s:Str,Ev (fun k=>bM.l1 k (aT b) (aT out) (i:Int) (j:Int)) (aT s,true)∧s.length≤10000:=by
       have e32:(⟨#[32]⟩:ByteArray)=aT [32]:=rfl
       have put:∀j:Nat,i<j→j≤b.length→∃s:Str,Ev (fun k=>(jy.f k (aT ((b.drop i).take (j-i)))).bind fun bt=>(if(i:Int)>0 then(if(aT out).size+1≤9223372036854775807 then(if((aT out)++(⟨#[32]⟩:ByteArray)).size+bt.1.size≤9223372036854775807 then(bM.l0 k (aT b) (((aT out)++(⟨#[32]⟩:ByteArray))++bt.1) (j:Int))else(none))else(none))else(if(aT out).size+bt.1.size≤9223372036854775807 then(bM.l0 k (aT b) ((aT out)++bt.1) (j:Int))else(none)))) (aT s,true)∧s.length≤10000:=by
        intro j h1 h2;have hcw:=U_ ((b.drop i).take (j-i)) (by rw[List.length_take,List.length_drop];omega);obtain⟨u,hu,hul⟩:=ajW ((b.drop i).take (j-i));by_cases h0:0<i
        ·obtain⟨s,hs,hsl⟩:=ih j (out++[32]++u) (by omega) h2 (by simp only[List.length_append,List.length_cons,List.length_nil];omega);refine⟨s,vb hcw (vp (by omega) ?_),hsl⟩;simp only[hu,e32,ay,kV];exact vp (by omega) (vp (by simp only[List.length_append,List.length_cons,List.length_nil];omega) hs)
        ·obtain⟨s,hs,hsl⟩:=ih j (out++u) (by omega) h2 (by simp only[List.length_append];omega);refine⟨s,vb hcw (vn (by omega) ?_),hsl⟩;simp only[hu,ay,kV];exact vp (by omega) hs
       intro d
       induction d with
       |zero=>
        intro j hd h1 h2;obtain⟨s,hs,hsl⟩:=put j h1 h2;refine⟨s,vc ?_,hsl⟩;simp only[bM.l1,Int.toNat_natCast,ext];exact vn (by rw[ay];omega) (vp (by omega) (vp (by omega) (vp (by rw[ay];omega) hs)))
       |succ d ihd=>
        intro j hd h1 h2;have w1:wrap64 ((j:Int)+1)=((j+1:Nat):Int):=(aQ (by omega) (by omega)).trans (by omega);have hcd:=N7 ((b.drop i).take (j+1-i)) (by rw[List.length_take,List.length_drop];omega);by_cases h4:(cd ((b.drop i).take (j+1-i))).length≤28
        ·obtain⟨s,hs,hsl⟩:=ihd (j+1) (by omega) (by omega) (by omega);refine⟨s,vc ?_,hsl⟩;simp only[bM.l1,Int.toNat_natCast,ext,w1];clear w1;exact vp (by rw[ay];omega) (vp (by omega) (vp (by omega) (vp (by rw[ay];omega) (vb hcd (vp (by rw[ay];omega) hs)))))
        ·obtain⟨s,hs,hsl⟩:=put j h1 h2;refine⟨s,vc ?_,hsl⟩;simp only[bM.l1,Int.toNat_natCast,ext,w1];clear w1;exact vp (by rw[ay];omega) (vp (by omega) (vp (by omega) (vp (by rw[ay];omega) (vb hcd (vn (by rw[ay];omega) (vp (by omega) (vp (by rw[ay];omega) hs)))))))
      have w1:wrap64 ((i:Int)+1)=((i+1:Nat):Int):=(aQ (by omega) (by omega)).trans (by omega);obtain⟨s,hs,hsl⟩:=inner _ (i+1) rfl (by omega) (by omega);refine⟨s,vc ?_,hsl⟩;simp only[bM.l0,ay,w1];clear w1;exact vp (by omega) hs
     ·refine⟨out,vc ?_,by omega⟩;simp only[bM.l0,ay];exact vn (by omega) (vs _)
   obtain⟨s,hs,hsl⟩:=key b.length 0 [] (by omega) (by omega) (by simp);exact⟨s,true,vn (by omega) (vb hn (vp rfl hs)),hsl⟩
theorem AA(a:List Str)(c:Str):o8 (a++[c])=o8 a+c.length:=by rw[nV];simp[o8]
theorem aIs(s:Str)(hs:s.length≤1000000):∃ls:List Str,Ev (fun k=>lG.f k (aT s) 10) (ls.map aT)∧ls.length≤s.length+1∧o8 ls≤s.length:=by
 have key:∀(r p:Str) (acc:List Str) (m:Nat),s=p++r→m≤p.length→o8 acc≤m→acc.length≤p.length→∃ls:List Str,Ev (fun k=>lG.l0 k (aT s) 10 (acc.map aT) (m:Int) (p.length:Int)) (ls.map aT)∧ls.length≤s.length+1∧o8 ls≤s.length:=by
  intro r
  induction r with
  |nil=>
   intro p acc m h h1 h2 h3;have hz:s.length=p.length:=by rw[h];simp
   refine⟨acc++[(s.drop m).take (s.length-m)],vc ?_,by simp;omega,by rw[AA];simp;omega⟩;simp only[lG.l0,ay,List.length_map,Int.toNat_natCast,jL];exact vn (by omega) (vp (by omega) (vp (by omega) (vp (by omega) (vq (vs _) (by simp)))))
  |cons c r ih=>
   intro p acc m h h1 h2 h3;have hz:s.length=p.length+(r.length+1):=by rw[h];simp
   have e1:bt (aT s) (p.length:Int)=(c.toNat:Int):=ku (l:=s) (p:=p) h;have w1:Unit→wrap64 ((p.length:Int)+1)=(((p++[c]).length:Nat):Int):=fun _=>by rw[aQ (by omega) (by omega)];simp
   by_cases c1:(c.toNat:Int)=10
   ·obtain⟨ls,g1,g2⟩:=ih (p++[c]) (acc++[(s.drop m).take (p.length-m)]) (p++[c]).length (by rw[h];simp) (Nat.le_refl _) (by rw[AA];simp;omega) (by simp;omega);refine⟨ls,vc ?_,g2⟩;simp only[lG.l0,ay,List.length_map,e1,w1 (),Int.toNat_natCast,jL];clear e1 w1;rw[List.map_append,List.map_singleton]at g1;exact vp (by omega) (vp (by omega) (vp c1 (vp (by omega) (vp (by omega) (vp (by omega) (vp (by omega) g1))))))
   ·obtain⟨ls,g1,g2⟩:=ih (p++[c]) acc m (by rw[h];simp) (by simp;omega) h2 (by simp;omega);refine⟨ls,vc ?_,g2⟩;simp only[lG.l0,ay,List.length_map,e1,w1 ()];clear e1 w1;exact vp (by omega) (vp (by omega) (vn c1 g1))
 unfold lG.f;exact key s [] [] 0 rfl (Nat.le_refl _) (Nat.le_refl _) (Nat.le_refl _)
theorem Zl(s:Str)(hs:s.length≤1000):∃(ls:List Str) (ok:Bool),Ev (fun k=>jC.f k (aT s)) (ls.map aT,ok)∧ls.length+o8 ls≤2001:=by
 obtain⟨xs,g1,g2,g3⟩:=aIs s (by omega)
 have key:∀(r p:List Str),xs=p++r→∃(ls:List Str) (ok:Bool),Ev (fun k=>jC.l0 k (aT s) (xs.map aT) (p.length:Int)) (ls.map aT,ok)∧ls.length+o8 ls≤2001:=by
  intro r
  induction r with
  |nil=>
   intro p h;have hz:xs.length=p.length:=by rw[h];simp
   refine⟨xs,decide (((aT s).size:Int)≤300),vc ?_,by omega⟩;simp only[jC.l0,List.length_map];exact vn (by omega) (vs _)
  |cons c r ih=>
   intro p h;have hz:xs.length=p.length+(r.length+1):=by rw[h];simp
   have e1:=nX h;have hc:c.length≤o8 xs:=acv (by rw[h];simp);have w1:Unit→wrap64 ((p.length:Int)+1)=(((p++[c]).length:Nat):Int):=fun _=>by rw[aQ (by omega) (by omega)];simp
   obtain⟨ls,ok,g4,g5⟩:=ih (p++[c]) (by rw[h];simp);have tv:=nH c (by omega);by_cases c1:(c.length:Int)>40
   ·refine⟨[],false,vc ?_,by simp[o8]⟩;simp only[jC.l0,List.length_map,e1,ay];exact vp (by omega) (vp (by omega) (vp c1 (vs _)))
   by_cases c2:nG c=true
   ·refine⟨ls,ok,vc ?_,g5⟩;simp only[jC.l0,List.length_map,e1,ay,w1 ()];exact vp (by omega) (vp (by omega) (vn c1 (vb tv (vp c2 g4))))
   ·refine⟨[],false,vc ?_,by simp[o8]⟩;simp only[jC.l0,List.length_map,e1,ay];exact vp (by omega) (vp (by omega) (vn c1 (vb tv (vn c2 (vs _)))))
 obtain⟨ls,ok,g4,g5⟩:=key xs [] rfl;refine⟨ls,ok,?_,g5⟩;unfold jC.f;exact vb g1 g4
theorem ajX(c:UInt8)(b:Bool):∃t:Str,oV.f (c.toNat:Int) b=some (aT t)∧t.length≤3:=by
 have key:∀n:Nat,n<256→(match oV.f ((UInt8.ofNat n).toNat:Int) b with|some s=>decide (s.size≤3)|none=>false)=true:=by
  cases b<;>decide+kernel
 have:=key c.toNat c.toNat_lt;rw[UInt8.ofNat_toNat]at this
 cases e:oV.f (c.toNat:Int) b with
 |none=>rw[e]at this;cases this
 |some s=>
  rw[e]at this;exact⟨L s,by rw[apj],by rw[←Qw];exact of_decide_eq_true this⟩
theorem La(s:Str)(hs:s.length≤1000):∃(ls:List Str) (ok:Bool),Ev (fun k=>cZ.f k (aT s)) (ls.map aT,ok)∧ls.length+o8 ls≤5002:=by
 have key:∀(r p:Str) (acc:List Str) (cur:Str),s=p++r→acc.length≤p.length→cur.length≤39→o8 acc+cur.length≤4*p.length→∃(ls:List Str) (ok:Bool),Ev (fun k=>cZ.l0 k (aT s) (acc.map aT) (aT cur) (p.length:Int)) (ls.map aT,ok)∧ls.length+o8 ls≤5002:=by
  intro r
  induction r with
  |nil=>
   intro p acc cur h h1 h2 h3;have hz:s.length=p.length:=by rw[h];simp
   refine⟨acc++[cur],true,vc ?_,by rw[AA];simp;omega⟩;simp only[cZ.l0,ay,List.length_map];exact vn (by omega) (vp (by omega) (vq (vs _) (by simp)))
  |cons c r ih=>
   intro p acc cur h h1 h2 h3;have hz:s.length=p.length+(r.length+1):=by rw[h];simp
   have hp:(p++[c]).length=p.length+1:=by simp
   have e1:bt (aT s) (p.length:Int)=(c.toNat:Int):=ku (l:=s) (p:=p) h;have w1:Unit→wrap64 ((p.length:Int)+1)=(((p++[c]).length:Nat):Int):=fun _=>by rw[aQ (by omega) (by omega)];simp
   by_cases c1:(c.toNat:Int)=10
   ·obtain⟨ls,ok,g1,g2⟩:=ih (p++[c]) (acc++[cur]) [] (by rw[h];simp) (by simp;omega) (by simp) (by rw[AA,hp];simp;omega);refine⟨ls,ok,vc ?_,g2⟩;simp only[cZ.l0,ay,List.length_map,e1,w1 ()];clear e1 w1;rw[List.map_append,List.map_singleton]at g1;exact vp (by omega) (vp (by omega) (vp c1 (vp (by omega) g1)))
   ·have fin:∀b:Bool,∃(ls:List Str) (ok:Bool) (t:Str),oV.f (c.toNat:Int) b=some (aT t)∧ls.length+o8 ls≤5002∧Ev (fun k=>if(wrap64 (((aT cur).size:Int)+((aT t).size:Int)))>39 then(if(aT cur).size+1≤9223372036854775807 then(if(acc.map aT).length<8796093022208 then(if 0+(aT t).size≤9223372036854775807 then(cZ.l0 k (aT s) (acc.map aT++[aT cur++(⟨#[61]⟩:ByteArray)]) ((⟨#[]⟩:ByteArray)++aT t) (((p++[c]).length:Nat):Int))else none)else none)else none)else(if(aT cur).size+(aT t).size≤9223372036854775807 then(cZ.l0 k (aT s) (acc.map aT) (aT cur++aT t) (((p++[c]).length:Nat):Int))else none)) (ls.map aT,ok):=by
     intro b;obtain⟨t,ht,hl⟩:=ajX c b;have w2:Unit→wrap64 ((cur.length:Int)+(t.length:Int))=(cur.length:Int)+(t.length:Int):=fun _=>aQ (by omega) (by omega)
     by_cases c2:(cur.length:Int)+(t.length:Int)>39
     ·obtain⟨ls,ok,g1,g2⟩:=ih (p++[c]) (acc++[cur++[61]]) t (by rw[h];simp) (by simp;omega) (by omega) (by rw[AA,hp];simp;omega);refine⟨ls,ok,t,ht,g2,?_⟩;simp only[ay,List.length_map,w2 ()];clear w2 w1;refine vp c2 (vp (by omega) (vp (by omega) (vp (by omega) ?_)));rw[List.map_append,List.map_singleton,←kV]at g1;exact g1
     ·obtain⟨ls,ok,g1,g2⟩:=ih (p++[c]) acc (cur++t) (by rw[h];simp) (by simp;omega) (by simp;omega) (by rw[hp];simp;omega);refine⟨ls,ok,t,ht,g2,?_⟩;simp only[ay,List.length_map,w2 ()];clear w2 w1;refine vn c2 (vp (by omega) ?_);rw[←kV]at g1;exact g1
    by_cases c3:(((p++[c]).length:Nat):Int)=(s.length:Int)
    ·obtain⟨ls,ok,t,ht,g2,g1⟩:=fin true;refine⟨ls,ok,vc ?_,g2⟩;simp only[cZ.l0,ay s,e1,w1 ()];clear e1 w1;exact vp (by omega) (vp (by omega) (vn c1 (vp c3 (jD ht g1))))
    ·obtain⟨ls,ok,t,ht,g2,g1⟩:=fin ((bt (aT s) (((p++[c]).length:Nat):Int))==10);refine⟨ls,ok,vc ?_,g2⟩;simp only[cZ.l0,ay s,e1,w1 ()];clear e1 w1;exact vp (by omega) (vp (by omega) (vn c1 (vn c3 (vp (by omega) (vp (by omega) (jD ht g1))))))
 unfold cZ.f;rw[ay];by_cases c0:(s.length:Int)>300
 ·exact⟨[],false,vp c0 (vs _),by simp[o8]⟩
 ·obtain⟨ls,ok,g1,g2⟩:=key s [] [] [] rfl (Nat.le_refl _) (by simp) (by simp[o8]);exact⟨ls,ok,vn c0 g1,g2⟩
theorem agz(s:Str)(hs:s.length≤100000):∃ls:List Str,Ev (fun k=>lU.f k (aT s) 40) (ls.map aT)∧ls.length≤s.length+1∧o8 ls≤s.length:=by
 have key:∀(n:Nat) (x:Str) (acc:List Str),x.length≤n→acc.length+x.length≤s.length→o8 acc+x.length≤s.length→∃ls:List Str,Ev (fun k=>lU.l0 k (aT x) 40 (acc.map aT)) (ls.map aT)∧ls.length≤s.length+1∧o8 ls≤s.length:=by
  intro n
  induction n with
  |zero=>
   intro x acc h h1 h2;refine⟨acc++[x],vc ?_,by simp;omega,by rw[AA];omega⟩;simp only[lU.l0,ay,List.length_map];exact vn (by omega) (vp (by omega) (vq (vs _) (by simp)))
  |succ n ih=>
   intro x acc h h1 h2;by_cases c:(x.length:Int)>40
   ·obtain⟨ls,g1,g2⟩:=ih (x.drop 40) (acc++[x.take 40]) (by simp;omega) (by simp;omega) (by rw[AA];simp;omega);refine⟨ls,vc ?_,g2⟩
    have e1:(aT x).extract (40:Int).toNat x.length=aT (x.drop 40):=by
     rw[jL];exact congrArg aT (List.take_of_length_le (by simp))
    have e2:(aT x).extract 0 (40:Int).toNat=aT (x.take 40):=by rw[jL];rfl
    simp only[lU.l0,ay,List.length_map,e1,e2];rw[List.map_append,List.map_singleton]at g1;exact vp c (vp (by omega) (vp (by omega) (vp (by omega) g1)))
   ·refine⟨acc++[x],vc ?_,by simp;omega,by rw[AA];omega⟩;simp only[lU.l0,ay,List.length_map];exact vn c (vp (by omega) (vq (vs _) (by simp)))
 unfold lU.f;exact key s.length s [] (Nat.le_refl _) (by simp) (by simp[o8])
theorem aIt(x:Int)(h0:0≤x)(h1:x≤1000000000000):0≤Go.bits .and .i64 x 63∧Go.bits .and .i64 x 63≤63:=by
 obtain⟨a,rfl⟩:=Int.eq_ofNat_of_zero_le h0
 have h2:(BitVec.ofInt 64 (a:Int)).toNat=a:=by
  rw[BitVec.ofInt_natCast,BitVec.toNat_ofNat];exact Nat.mod_eq_of_lt (by omega)
 have e:Go.bits .and .i64 (a:Int) 63=((a &&&63:Nat):Int):=by
  show IntKind.i64.wrap ((BitVec.ofInt 64 (a:Int) &&&BitVec.ofInt 64 (63:Int)).toNat:Int)=_
  have h3:(BitVec.ofInt 64 (63:Int)).toNat=63:=by decide
  rw[BitVec.toNat_and,h2,h3,ig];have:a &&&63≤63:=Nat.and_le_right;exact aQ (by omega) (by omega)
 rw[e];have:a &&&63≤63:=Nat.and_le_right;omega
theorem azP(x y:Int)(h0:0≤x):0≤shr .i64 x y∧shr .i64 x y≤x:=by
 unfold shr;have hp:(0:Int)<2 ^ min y.toNat (IntKind.i64).bits:=Int.pow_pos (by omega);exact⟨Int.ediv_nonneg h0 (by omega),Int.ediv_le_self _ h0⟩
theorem ajY(s:Str)(hs:s.length≤1000)(i:Nat)(hi:i≤1000)(x5:Int)(h5:0≤x5)(h6:x5≤1000000000):∀(j:Nat),j≤4→∀acc:Str,acc.length+j≤1000000→
  ∃out:Str,out.length≤acc.length+j∧∀V,Ev (fun k=>dh.l0 k (aT s) (aT out) (wrap64 ((i:Int)+3))) V→Ev (fun k=>dh.l1 k (aT s) (aT acc) (i:Int) x5 ((4-j:Nat):Int)) V:=by
 intro j
 induction j with
 |zero=>
  intro _ acc ha;refine⟨acc,by omega,fun V hV=>vc ?_⟩;simp only[dh.l1];exact vn (by omega) hV
 |succ j ih=>
  intro hj acc ha;have w1:Unit→wrap64 (((4-(j+1):Nat):Int)+1)=((4-j:Nat):Int):=fun _=>by rw[aQ (by omega) (by omega)];omega
  have w2:Unit→wrap64 ((i:Int)+((4-(j+1):Nat):Int))=(i:Int)+((4-(j+1):Nat):Int):=fun _=>aQ (by omega) (by omega)
  by_cases c:(i:Int)+((4-(j+1):Nat):Int)>(s.length:Int)
  ·obtain⟨out,ho,hV⟩:=ih (by omega) (acc++[61]) (by simp;omega);simp only[List.length_append,List.length_cons,List.length_nil]at ho;refine⟨out,by omega,fun V h=>vc ?_⟩;have:=hV V h;rw[←kV]at this;simp only[dh.l1,ay,w1 (),w2 ()];clear w1 w2;exact vp (by omega) (vp c (vp (by omega) this))
  ·have hsh:=azP x5 (wrap64 (18-wrap64 (6*((4-(j+1):Nat):Int)))) h5;have hq:=aIt _ hsh.1 (by omega)
   have hw:Unit→wrap64 (18-wrap64 (6*((4-(j+1):Nat):Int)))=18-6*((4-(j+1):Nat):Int):=fun _=>by
    rw[aQ (x:=6*_) (by omega) (by omega),aQ (by omega) (by omega)]
   generalize hX:Go.bits .and .i64 (shr .i64 x5 (wrap64 (18-wrap64 (6*((4-(j+1):Nat):Int))))) 63=X at hq
   have w3:Unit→wrap64 (X+1)=X+1:=fun _=>aQ (by omega) (by omega)
   obtain⟨T,hT,hTs⟩:∃T:Str,sK.f=some (aT T)∧T.length=64:=⟨_,rfl,by decide⟩
   obtain⟨out,ho,hV⟩:=ih (by omega) (acc++(T.drop X.toNat).take ((X+1).toNat-X.toNat)) (by simp;omega);simp only[List.length_append,List.length_take]at ho;refine⟨out,by omega,fun V h=>vc ?_⟩;have:=hV V h;rw[←kV]at this;simp only[dh.l1,hX,ay,w1 (),w2 (),w3 ()];refine vp (by omega) (vn c (vp (by rw[hw ()];omega) (jD hT ?_)));simp only[ay,jL];exact vp (by omega) (vp (by omega) (vp (by omega) (vp (by simp;omega) this)))
theorem apk(s:Str)(i:Nat):0≤bt (aT s) (i:Int)∧bt (aT s) (i:Int)≤255:=by
 unfold bt;split
 ·rename_i h
  have:=((aT s)[(i:Int).toNat]).toNat_lt;omega
 ·omega
theorem ajZ(s:Str)(hs:s.length≤1000):∃out:Str,Ev (fun k=>dh.f k (aT s)) (aT out)∧out.length≤4*s.length:=by
 have key:∀(n i:Nat) (acc:Str),s.length≤i+n→i≤s.length+3→acc.length+4*n≤4*s.length→∃out:Str,Ev (fun k=>dh.l0 k (aT s) (aT acc) (i:Int)) (aT out)∧out.length≤4*s.length:=by
  intro n
  induction n with
  |zero=>
   intro i acc h h1 h2;refine⟨acc,vc ?_,by omega⟩;simp only[dh.l0,ay];exact vn (by omega) (vs _)
  |succ n ih=>
   intro i acc h h1 h2;by_cases c:(i:Int)<(s.length:Int)
   ·have w1:Unit→wrap64 ((i:Int)+1)=((i+1:Nat):Int):=fun _=>by rw[aQ (by omega) (by omega)];omega
    have w2:Unit→wrap64 ((i:Int)+2)=((i+2:Nat):Int):=fun _=>by rw[aQ (by omega) (by omega)];omega
    have w3:Unit→wrap64 ((i:Int)+3)=((i+3:Nat):Int):=fun _=>by rw[aQ (by omega) (by omega)];omega
    have b0:=apk s i;have b1:=apk s (i+1);have b2:=apk s (i+2)
    generalize hb0:bt (aT s) (i:Int)=B0 at b0
    generalize hb1:bt (aT s) ((i+1:Nat):Int)=B1 at b1
    generalize hb2:bt (aT s) ((i+2:Nat):Int)=B2 at b2
    have v0:Unit→wrap64 (wrap64 B0*65536)=B0*65536:=fun _=>by rw[aQ (x:=B0) (by omega) (by omega),aQ (by omega) (by omega)]
    have v1:Unit→wrap64 (B0*65536+wrap64 (wrap64 B1*256))=B0*65536+B1*256:=fun _=>by rw[aQ (x:=B1) (by omega) (by omega),aQ (x:=B1*256) (by omega) (by omega),aQ (by omega) (by omega)]
    have v2:∀x:Int,0≤x→x≤100000000→wrap64 (x+wrap64 B2)=x+B2:=fun x _ _=>by rw[aQ (x:=B2) (by omega) (by omega),aQ (by omega) (by omega)]
    have step:∀x:Int,0≤x→x≤1000000000→∃out:Str,Ev (fun k=>dh.j2 k (aT s) (aT acc) (i:Int) x) (aT out)∧out.length≤4*s.length:=by
     intro x x0 x1;obtain⟨o1,g1,g2⟩:=ajY s hs i (by omega) x x0 x1 4 (Nat.le_refl _) acc (by omega);obtain⟨out,g3,g4⟩:=ih (i+3) o1 (by omega) (by omega) (by omega);refine⟨out,vc ?_,g4⟩;simp only[dh.j2];rw[w3 ()]at g2;exact g2 _ g3
    have step1:∀x:Int,0≤x→x≤100000000→∃out:Str,Ev (fun k=>dh.j1 k (aT s) (aT acc) (i:Int) x) (aT out)∧out.length≤4*s.length:=by
     intro x x0 x1;by_cases c2:((i+2:Nat):Int)<(s.length:Int)
     ·obtain⟨out,g3,g4⟩:=step (x+B2) (by omega) (by omega);refine⟨out,vc ?_,g4⟩;simp only[dh.j1,ay,w2 (),hb2,v2 x x0 x1];clear w1 w2 w3 v0 v1 v2;exact vp c2 (vp (by omega) g3)
     ·obtain⟨out,g3,g4⟩:=step x (by omega) (by omega);refine⟨out,vc ?_,g4⟩;simp only[dh.j1,ay,w2 ()];exact vn c2 g3
    by_cases c1:((i+1:Nat):Int)<(s.length:Int)
    ·obtain⟨out,g3,g4⟩:=step1 (B0*65536+B1*256) (by omega) (by omega);refine⟨out,vc ?_,g4⟩;simp only[dh.l0,ay,w1 (),hb0,hb1,v0 (),v1 ()];clear w1 w2 w3 v0 v1 v2;exact vp c (vp (by omega) (vp c1 (vp (by omega) g3)))
    ·obtain⟨out,g3,g4⟩:=step1 (B0*65536) (by omega) (by omega);refine⟨out,vc ?_,g4⟩;simp only[dh.l0,ay,w1 (),hb0,v0 ()];clear w1 w2 w3 v0 v1 v2;exact vp c (vp (by omega) (vn c1 g3))
   ·refine⟨acc,vc ?_,by omega⟩;simp only[dh.l0,ay];exact vn c (vs _)
 unfold dh.f;exact key s.length 0 [] (by omega) (by omega) (by simp)
theorem Po(s:Str)(hs:s.length≤1000):∃(ls:List Str) (ok:Bool),Ev (fun k=>nZ.f k (aT s)) (ls.map aT,ok)∧ls.length+o8 ls≤8001:=by
 unfold nZ.f;rw[ay];by_cases c:(s.length:Int)>300
 ·exact⟨[],false,vp c (vs _),by simp[o8]⟩
 ·obtain⟨o,g1,g2⟩:=ajZ s hs;obtain⟨ls,g3,g4,g5⟩:=agz o (by omega);exact⟨ls,true,vn c (vb g1 (vb g3 (vs _))),by omega⟩
theorem aaQ(ls:List Str)(h:ls.length+o8 ls≤100000):∃n:Int,Ev (fun k=>lH.f k (ls.map aT)) n:=by
 have key:∀(r p:List Str) (acc:Nat),ls=p++r→acc=o8 p+p.length→∃n:Int,Ev (fun k=>lH.l0 k (ls.map aT) (acc:Int) (p.length:Int)) n:=by
  intro r
  induction r with
  |nil=>
   intro p acc h1 _;have hz:ls.length=p.length:=by rw[h1];simp
   refine⟨acc,vc ?_⟩;simp only[lH.l0,List.length_map];exact vn (by omega) (vs _)
  |cons c r ih=>
   intro p acc h1 h2;have hz:ls.length=p.length+(r.length+1):=by rw[h1];simp
   have hsz:o8 ls=o8 p+(c.length+o8 r):=by rw[h1,nV];rfl
   have e1:=nX h1;have w1:Unit→wrap64 ((p.length:Int)+1)=(((p++[c]).length:Nat):Int):=fun _=>by rw[aQ (by omega) (by omega)];simp
   have w2:Unit→wrap64 (wrap64 ((acc:Int)+(c.length:Int))+1)=((acc+c.length+1:Nat):Int):=fun _=>by rw[aQ (x:=(acc:Int)+_) (by omega) (by omega),aQ (by omega) (by omega)];omega
   obtain⟨n,g⟩:=ih (p++[c]) (acc+c.length+1) (by rw[h1];simp) (by rw[AA];simp;omega);refine⟨n,vc ?_⟩;simp only[lH.l0,List.length_map,e1,ay,w1 (),w2 ()];clear w1 w2;exact vp (by omega) (vp (by omega) g)
 unfold lH.f;exact key ls [] 0 rfl rfl
theorem aeA(s:Str)(hs:s.length≤1000):∃(n:Int) (ok:Bool),Ev (fun k=>og.f k (aT s)) (n,ok)∧0≤n∧n≤2:=by
 unfold og.f;rw[ay];by_cases c:(s.length:Int)>300
 ·exact⟨0,false,vp c (vs _),by omega,by omega⟩
 obtain⟨l1,b1,g1,h1⟩:=Zl s hs;by_cases c1:b1=true
 ·exact⟨0,true,vn c (vb g1 (vp c1 (vs _))),by omega,by omega⟩
 obtain⟨l2,b2,g2,h2⟩:=La s hs;obtain⟨l3,b3,g3,h3⟩:=Po s hs;obtain⟨n,g4⟩:=aaQ l2 (by omega);obtain⟨m,g5⟩:=aaQ l3 (by omega);by_cases c2:n≤m
 ·exact⟨1,true,vn c (vb g1 (vn c1 (vb g2 (vb g3 (vb g4 (vb g5 (vp c2 (vs _)))))))),by omega,by omega⟩
 ·exact⟨2,true,vn c (vb g1 (vn c1 (vb g2 (vb g3 (vb g4 (vb g5 (vn c2 (vs _)))))))),by omega,by omega⟩
theorem Zm(s:Str)(hs:s.length≤1000)(n:Int):∃(ls:List Str) (ok:Bool),Ev (fun k=>kY.f k (aT s) n) (ls.map aT,ok)∧ls.length+o8 ls≤8001:=by
 obtain⟨l1,b1,g1,h1⟩:=Zl s hs;obtain⟨l2,b2,g2,h2⟩:=La s hs;obtain⟨l3,b3,g3,h3⟩:=Po s hs;unfold kY.f;by_cases c0:n=0
 ·by_cases c1:b1=true
  ·exact⟨l1,true,vp c0 (vb g1 (vp c1 (vs _))),by omega⟩
  ·exact⟨[],false,vp c0 (vb g1 (vn c1 (vs _))),by simp[o8]⟩
 by_cases c1:n=1
 ·exact⟨l2,b2,vn c0 (vp c1 (vb g2 (vs _))),by omega⟩
 by_cases c2:n=2
 ·exact⟨l3,b3,vn c0 (vn c1 (vp c2 (vb g3 (vs _)))),by omega⟩
 ·exact⟨[],false,vn c0 (vn c1 (vn c2 (vs _))),by simp[o8]⟩
theorem aeB(a b c d:Str):(!(((aT a).toList)==((aT b).toList))||(!(((aT c).toList)==((aT d).toList))))=true↔¬((a,c)=(b,d)):=by
 simp only[jv,Prod.mk.injEq];by_cases h1:a=b<;>by_cases h2:c=d<;>simp[h1,h2]
theorem Qx(a b:List (Str×Str))(hn:a.length≤1000000000000):Ev (fun k=>jG.f k (a.map vW) (b.map vW)) (decide (a=b)):=by
 unfold jG.f;simp only[List.length_map];by_cases hl:a.length=b.length
 ·refine vp (by omega) ?_;refine vq (oD (xs:=a) (F:=fun k (_:List (Str×Str)) i=>jG.l0 k (a.map vW) (b.map vW) (a.length:Int) i) (st:=stp) (fin:=fun _=>true) (s:=b) (fun p r=>∃q,b=q++r∧q.length=p.length) ⟨[],rfl,rfl⟩ ?_ ?_) (aef a b hl)
  ·rintro p c r s h ⟨q,hq,hql⟩;have hz:=gZ h;have e1:=zI h;have w1:wrap64 ((p.length:Int)+1)=(p.length:Int)+1:=aQ (by omega) (by omega)
   cases s with
   |nil=>rw[hq]at hl;simp at hl;omega
   |cons d s=>
    have e2:=zI hq;rw[hql]at e2;have e3:=aeB c.1 d.1 c.2 d.2;simp only[jG.l0,e1,e2,w1,List.length_map,vW,e3,stp];clear w1 e1 e2 e3;by_cases e:c=d
    ·simp only[if_pos e];refine⟨(fun v hv=>by cases hv),fun s' hs=>⟨?_,fun v hv=>?_⟩⟩
     ·cases hs;exact⟨q++[d],by rw[hq];simp,by simp[hql]⟩
     ·exact vp (by omega) (vp (by omega) (vp (by omega) (vp (by omega) (vn (by simp[e]) hv))))
    ·simp only[if_neg e];refine⟨(fun v hv=>?_),fun s' hs=>by cases hs⟩;cases hv;exact vp (by omega) (vp (by omega) (vp (by omega) (vp (by omega) (vp e (vs _)))))
  ·intro s _;simp only[jG.l0,List.length_map];exact vn (by omega) (vs _)
 ·refine vn (by omega) (vq (vs _) ?_);rw[eq_comm];exact decide_eq_false (fun h=>hl (by rw[h]))
theorem azQ(a b:List Str)(hn:a.length≤1000000000000):Ev (fun k=>bT.f k (a.map aT) (b.map aT)) (decide (a=b)):=by
 unfold bT.f;simp only[List.length_map];by_cases hl:a.length=b.length
 ·refine vp (by omega) ?_;refine vq (oD (xs:=a) (F:=fun k (_:List Str) i=>bT.l0 k (a.map aT) (b.map aT) (a.length:Int) i) (st:=stp) (fin:=fun _=>true) (s:=b) (fun p r=>∃q,b=q++r∧q.length=p.length) ⟨[],rfl,rfl⟩ ?_ ?_) (aef a b hl)
  ·rintro p c r s h ⟨q,hq,hql⟩;have hz:=gZ h;have e1:=nX h;have w1:wrap64 ((p.length:Int)+1)=(p.length:Int)+1:=aQ (by omega) (by omega)
   cases s with
   |nil=>rw[hq]at hl;simp at hl;omega
   |cons d s=>
    have e2:=nX hq;rw[hql]at e2;simp only[bT.l0,e1,e2,w1,List.length_map,jv,stp];clear w1 e1 e2;by_cases e:c=d
    ·simp only[if_pos e];refine⟨(fun v hv=>by cases hv),fun s' hs=>⟨?_,fun v hv=>?_⟩⟩
     ·cases hs;exact⟨q++[d],by rw[hq];simp,by simp[hql]⟩
     ·exact vp (by omega) (vp (by omega) (vp (by omega) (vp (by omega) hv)))
    ·simp only[if_neg e];refine⟨(fun v hv=>?_),fun s' hs=>by cases hs⟩;cases hv;exact vp (by omega) (vp (by omega) (vp (by omega) (vp (by omega) (vs _))))
  ·intro s _;simp only[bT.l0,List.length_map];exact vn (by omega) (vs _)
 ·refine vn (by omega) (vq (vs _) ?_);rw[eq_comm];exact decide_eq_false (fun h=>hl (by rw[h]))
theorem aj0(k l:List Pt)(hn:k.length≤1000000000000)(ih:∀p∈k,∀q,Ev (fun n=>jw.f n (e32 p).f0 (e32 p).f1 (e32 p).f2 (e32 q).f0 (e32 q).f1 (e32 q).f2) (smt p q)):
  ∀(r s p q:List Pt),k=p++r→l=q++s→q.length=p.length→r.length=s.length→Ev (fun n=>iC.l0 n (l.map e32) (k.map e32) (k.length:Int) (p.length:Int)) (aeg r s):=by
 intro r
 induction r with
 |nil=>
  intro s p q h1 h2 h3 h4;have hz:k.length=p.length:=by rw[h1,List.append_nil]
  refine vc ?_;simp only[iC.l0,aeg];exact vn (by omega) (vs _)
 |cons c r ihr=>
  intro s p q h1 h2 h3 h4
  cases s with
  |nil=>simp at h4
  |cons d s=>
   have hz:=gZ h1;have hz2:=gZ h2;have e1:=JA h1;have e2:=JA h2;rw[h3]at e2;have w1:wrap64 ((p.length:Int)+1)=(p.length:Int)+1:=aQ (by omega) (by omega);have hk:=ih c (by rw[h1];simp) d;have hr:=ihr s (p++[c]) (q++[d]) (by rw[h1];simp) (by rw[h2];simp) (by simp[h3]) (by simpa using h4);rw[kS]at hr;refine vc ?_;simp only[iC.l0,e1,e2,w1,List.length_map,aeg];clear w1 e1 e2;refine vp (by omega) (vp (by omega) (vp (by omega) (vp (by omega) (vb hk ?_))))
   cases smt c d with
   |true=>exact vp rfl hr
   |false=>exact vn (by simp) (vs _)
theorem JK(p:Pt):∀q,OD p≤1000000000000→Ev (fun n=>jw.f n (e32 p).f0 (e32 p).f1 (e32 p).f2 (e32 q).f0 (e32 q).f1 (e32 q).f2) (smt p q):=by
 refine agl (P:=fun p=>∀q,OD p≤1000000000000→Ev (fun n=>jw.f n (e32 p).f0 (e32 p).f1 (e32 p).f2 (e32 q).f0 (e32 q).f1 (e32 q).f2) (smt p q)) (fun f b k ih q hs=>?_) p
 cases q with
 |mk g c l=>
  rw[OD]at hs;simp only[Gz];refine vc ?_;simp only[jw.f,List.length_map];rw[smt];refine vb (Qx f g (by omega)) ?_;by_cases h1:f=g
  ·refine vp (by simp[h1]) (vb (azQ b c (by omega)) ?_);by_cases h2:b=c
   ·refine vp (by simp[h2]) ?_;by_cases h3:k.length=l.length
    ·refine vb (vp (by omega) (aj0 k l (by omega) (fun p hp q=>ih p hp q (by have:=YX hp;omega)) k l [] [] rfl rfl rfl h3)) (vq (vs _) ?_);simp[h1,h2,h3]
    ·refine vb (vn (by omega) (vs _)) (vq (vs _) ?_);simp[h3]
   ·exact vn (by simp[h2]) (vq (vs _) (by simp[h2]))
  ·exact vn (by simp[h1]) (vq (vs _) (by simp[h1]))
def sz3(f:List (Str×Str))(b:List Str)(k:List Pt):Nat:=f.length+C_ f+b.length+o8 b+k.length+GH k
theorem apl(x:kE):(⟨x.f0,x.f1,x.f2⟩:kE)=x:=by cases x;rfl
theorem aeC(a b:List Pt):GH (a++b)=GH a+GH b:=by
 induction a with
 |nil=>simp[GH]
 |cons c a ih=>simp only[List.cons_append,GH,ih];omega
def szR:List eG→Nat
 |[]=>0
 |x:: r=>x.f0.size+x.f1.size+szR r
theorem fields_of(R:List eG):∃f:List (Str×Str),R=f.map vW∧C_ f=szR R∧f.length=R.length:=by
 induction R with
 |nil=>exact⟨[],rfl,rfl,rfl⟩
 |cons x r ih=>
  obtain⟨f,h1,h2,h3⟩:=ih;refine⟨(L x.f0,L x.f1):: f,by rw[List.map_cons,←h1];rfl,by simp only[C_,szR,h2,Qw],by simp[h3]⟩
theorem agA(l:List Int)(p:Int)(ws:List ByteArray)(M:Nat)(hl:IsB l)(h0:0≤p)(h1:p≤1000000000)(hn:1≤ws.length)(hn2:ws.length≤1000000)(hM:∀x∈ws,x.size≤M):
  ∃s:Str,Ev (fun k=>fJ.f k l p ws) (aT s,p+1)∧s.length≤M:=by
 obtain⟨v,h,hm⟩:=aIo l p ws hl h0 h1 hn hn2;exact⟨L v,h,by rw[←Qw];exact hM v hm⟩
theorem Zn(p:Pt):OD p≤1000000000→Ev (fun n=>iK.f n (e32 p).f0 (e32 p).f1 (e32 p).f2) ((e32 p).f0,(e32 p).f1,(e32 p).f2):=by
 refine agl (P:=fun p=>OD p≤1000000000→Ev (fun n=>iK.f n (e32 p).f0 (e32 p).f1 (e32 p).f2) ((e32 p).f0,(e32 p).f1,(e32 p).f2)) ?_ p;intro f b k ih hs;rw[OD]at hs;simp only[Gz]
 have key:∀(r q:List Pt),k=q++r→Ev (fun n=>gW.l0 n (q.map e32) (k.map e32) (k.length:Int) (q.length:Int)) (k.map e32):=by
  intro r
  induction r with
  |nil=>
   intro q h;have hz:k.length=q.length:=by rw[h];simp
   refine vc ?_;simp only[gW.l0];exact vn (by omega) (vq (vs _) (by rw[h,List.append_nil]))
  |cons c r ihr=>
   intro q h;have hz:k.length=q.length+(r.length+1):=by rw[h];simp
   have e1:=JA h;have hm:c∈k:=by rw[h];simp
   have hc:=YX hm;have g:=ih c hm (by omega);have w1:Unit→wrap64 ((q.length:Int)+1)=(((q++[c]).length:Nat):Int):=fun _=>by rw[aQ (by omega) (by omega)];simp
   have g2:=ihr (q++[c]) (by rw[h];simp);rw[List.map_append,List.map_singleton]at g2;refine vc ?_;simp only[gW.l0,List.length_map,e1,w1 ()];refine vp (by omega) (vp (by omega) (vp (by omega) (vb g ?_)));simp only[apl];exact vp (by omega) g2
 have k0:=key k [] rfl;refine vc ?_;simp only[iK.f,List.length_map];refine jD rfl (vp (by simp;omega) (jD rfl (vp (by simp;omega) (vb k0 (vq (vs _) (by simp))))))
theorem aY9(p:Pt):OD p≤1000000000→Ev (fun n=>fQ.f n (e32 p).f0 (e32 p).f1 (e32 p).f2) ((e32 p).f0,(e32 p).f1,(e32 p).f2):=by
 refine agl (P:=fun p=>OD p≤1000000000→Ev (fun n=>fQ.f n (e32 p).f0 (e32 p).f1 (e32 p).f2) ((e32 p).f0,(e32 p).f1,(e32 p).f2)) ?_ p;intro f b k ih hs;rw[OD]at hs;simp only[Gz]
 have key:∀(r q:List Pt),k=q++r→Ev (fun n=>fQ.l0 n (q.length:Int) (f.map vW) (b.map aT) (k.map e32) (f.map vW) (b.map aT) (q.map e32)) (f.map vW,b.map aT,k.map e32):=by
  intro r
  induction r with
  |nil=>
   intro q h;have hz:k.length=q.length:=by rw[h];simp
   refine vc ?_;simp only[fQ.l0,List.length_map];exact vn (by omega) (vq (vs _) (by rw[h,List.append_nil]))
  |cons c r ihr=>
   intro q h;have hz:k.length=q.length+(r.length+1):=by rw[h];simp
   have e1:=JA h;have hm:c∈k:=by rw[h];simp
   have hc:=YX hm;have g:=ih c hm (by omega);have w1:Unit→wrap64 ((q.length:Int)+1)=(((q++[c]).length:Nat):Int):=fun _=>by rw[aQ (by omega) (by omega)];simp
   have g2:=ihr (q++[c]) (by rw[h];simp);rw[List.map_append,List.map_singleton]at g2;refine vc ?_;simp only[fQ.l0,List.length_map,e1,w1 ()];refine vp (by omega) (vp (by omega) (vb g ?_));simp only[apl];exact vp (by omega) g2
 have k0:=key k [] rfl;refine vc ?_;simp only[fQ.f,List.length_map];exact jD rfl (vp (by simp;omega) (jD rfl (vp (by simp;omega) k0)))
theorem Zo(n s:Str)(hn:n.length≤1000)(hs:s.length≤1000):∃(f:List (Str×Str)) (b:List Str) (ok:Bool),Ev (fun k=>iD.f k (aT n) (aT s)) (f.map vW,b.map aT,([]:List kE),ok)∧sz3 f b []≤19000:=by
 obtain⟨u,o1,g1,h1⟩:=Qv n (by omega);obtain⟨c,o2,g2,h2,h3⟩:=aeA s hs;obtain⟨ls,o3,g3,h4⟩:=Zm s hs c;have hv:=xQ ([83,117,98,106,101,99,116],u) (by simp) (by show u.length≤_;omega);have hb:=NZ ls (fun x hx=>by have:=acv hx;omega) (by omega);have bad:sz3 [] [] []≤19000:=by decide
 unfold iD.f;by_cases c1:o1=true
 ·by_cases c2:o2=true
  ·by_cases c3:o3=true
   ·by_cases c4:fv ([83,117,98,106,101,99,116],u)=true
    ·by_cases c5:tbs ls=true
     ·have fin:∀v:ByteArray,v.size≤16→∃f:List (Str×Str),([(⟨(⟨#[83,117,98,106,101,99,116]⟩:ByteArray),aT u⟩:eG),(⟨(⟨#[67,111,110,116,101,110,116,45,84,121,112,101]⟩:ByteArray),(⟨#[116,101,120,116,47,112,108,97,105,110,59,32,99,104,97,114,115,101,116,61,117,116,102,45,56]⟩:ByteArray)⟩:eG),(⟨(⟨#[67,111,110,116,101,110,116,45,84,114,97,110,115,102,101,114,45,69,110,99,111,100,105,110,103]⟩:ByteArray),v⟩:eG)]:List eG)=f.map vW∧sz3 f ls []≤19000:=by
       intro v hv;obtain⟨f,k1,k2,k3⟩:=fields_of ([(⟨(⟨#[83,117,98,106,101,99,116]⟩:ByteArray),aT u⟩:eG),(⟨(⟨#[67,111,110,116,101,110,116,45,84,121,112,101]⟩:ByteArray),(⟨#[116,101,120,116,47,112,108,97,105,110,59,32,99,104,97,114,115,101,116,61,117,116,102,45,56]⟩:ByteArray)⟩:eG),(⟨(⟨#[67,111,110,116,101,110,116,45,84,114,97,110,115,102,101,114,45,69,110,99,111,100,105,110,103]⟩:ByteArray),v⟩:eG)]);refine⟨f,k1,?_⟩;have e:C_ f=7+u.length+(12+25+(25+v.size+0)):=by rw[k2];simp only[szR,ay];rfl
       have e2:f.length=3:=k3;unfold sz3;simp only[GH,List.length_nil];omega
      have hc:c=0∨c=1∨c=2:=by omega
      obtain⟨v,hv1,hv2⟩:∃v,iw ByteArray.empty ([(⟨#[55,98,105,116]⟩:ByteArray),(⟨#[113,117,111,116,101,100,45,112,114,105,110,116,97,98,108,101]⟩:ByteArray),(⟨#[98,97,115,101,54,52]⟩:ByteArray)]:List ByteArray) c=v∧v.size≤16:=by
       rcases hc with rfl|rfl|rfl
       ·exact⟨_,rfl,by decide⟩
       ·exact⟨_,rfl,by decide⟩
       ·exact⟨_,rfl,by decide⟩
      obtain⟨f,k1,k2⟩:=fin v hv2;refine⟨f,ls,true,vb g1 (vb g2 (vb g3 (vp c1 (vp c2 (vp c3 (vb hv (vp c4 (vb hb (vp c5 (jD rfl (vp h2 (vp ?_ ?_)))))))))))),k2⟩
      ·show c<((3:Nat):Int)
       omega
      ·refine vq (vs _) ?_;rw[←k1,hv1]
     ·exact⟨[],[],false,vb g1 (vb g2 (vb g3 (vp c1 (vp c2 (vp c3 (vb hv (vp c4 (vb hb (vn c5 (vs _)))))))))),bad⟩
    ·exact⟨[],[],false,vb g1 (vb g2 (vb g3 (vp c1 (vp c2 (vp c3 (vb hv (vn c4 (vs _)))))))),bad⟩
   ·exact⟨[],[],false,vb g1 (vb g2 (vb g3 (vp c1 (vp c2 (vn c3 (vs _)))))),bad⟩
  ·exact⟨[],[],false,vb g1 (vb g2 (vb g3 (vp c1 (vn c2 (vs _))))),bad⟩
 ·exact⟨[],[],false,vb g1 (vb g2 (vb g3 (vn c1 (vs _)))),bad⟩
theorem aeD(n s:Str)(hn:n.length≤1000)(hs:s.length≤1000):∃(f:List (Str×Str)) (b:List Str) (ok:Bool),Ev (fun k=>wu.f k (aT n) (aT s)) (f.map vW,b.map aT,([]:List kE),ok)∧sz3 f b []≤19000:=by
 obtain⟨f,b,ok,g1,h1⟩:=Zo n s hn hs;have g2:=Zn (.mk f b []) (by rw[OD];unfold sz3 at h1;omega);rw[Gz]at g2;refine⟨f,b,ok,?_,h1⟩;unfold wu.f;exact vb g1 (vb g2 (vs _))
theorem aj1(l:List Int)(q:Int):∀(n:Nat) (s:Str),301≤s.length+10*n→s.length≤1000→∃t:Str,Ev (fun k=>jr.l1 k (aT s) l q) (aT t,q)∧t.length≤1000:=by
 intro n
 induction n with
 |zero=>
  intro s h h1;refine⟨s,vc ?_,h1⟩;simp only[jr.l1,ay];exact vn (by omega) (vs _)
 |succ n ih=>
  intro s h h1;by_cases c:(s.length:Int)≤300
  ·obtain⟨t,g,g2⟩:=ih (s++[48,49,50,51,52,53,54,55,56,57]) (by simp;omega) (by simp;omega);rw[←kV]at g;refine⟨t,vc ?_,g2⟩;simp only[jr.l1,ay];exact vp c (vp (by omega) g)
  ·refine⟨s,vc ?_,h1⟩;simp only[jr.l1,ay];exact vn c (vs _)
theorem aj2(l:List Int)(hl:IsB l)(p:Int)(h0:0≤p)(h1:p≤100000000):∃(s:Str) (q:Int),Ev (fun k=>jr.f k l p) (aT s,q)∧s.length≤1000∧p≤q∧q≤p+20:=by
 have key:∀(n:Nat) (s:Str) (p:Int),0≤p→p+n≤200000000→s.length+60*n≤600→∃(t:Str) (q:Int),Ev (fun k=>jr.l0 k (aT s) (n:Int) l p) (aT t,q)∧t.length≤1000∧p≤q∧q≤p+n+1:=by
  intro n
  induction n with
  |zero=>
   intro s p h0 h1 h2;obtain⟨i,hi,i0,i1⟩:=Ku l p 40 hl h0 (by omega) (by omega) (by omega);by_cases c:i=0
   ·obtain⟨t,g,g2⟩:=aj1 l (p+1) 31 s (by omega) (by omega);refine⟨t,p+1,vc ?_,g2,by omega,by omega⟩;simp only[jr.l0];exact vn (by omega) (vb hi (vp c g))
   ·refine⟨s,p+1,vc ?_,by omega,by omega,by omega⟩;simp only[jr.l0];exact vn (by omega) (vb hi (vn c (vs _)))
  |succ n ih=>
   intro s p h0 h1 h2;obtain⟨v,hv,hm⟩:=agA l p (([(⟨#[104,101,108,108,111]⟩:ByteArray),(⟨#[32]⟩:ByteArray),(⟨#[61]⟩:ByteArray),(⟨#[10]⟩:ByteArray),(⟨#[255,0]⟩:ByteArray),(⟨#[99,97,102,195,169]⟩:ByteArray),(⟨#[97,32,108,111,110,103,101,114,32,114,111,119,32,111,102,32,119,111,114,100,115,32,116,104,97,116,32,105,115,32,98,114,111,107,101,110,32,104,101,114,101]⟩:ByteArray),(⟨#[120]⟩:ByteArray),(⟨#[46]⟩:ByteArray),(⟨#[9]⟩:ByteArray)]:List ByteArray)) 60 hl h0 (by omega) (by simp) (by simp) (by decide);obtain⟨t,q,g1,g2,g3,g4⟩:=ih (s++v) (p+1) (by omega) (by omega) (by simp;omega);have w1:Unit→wrap64 (((n+1:Nat):Int)-1)=(n:Int):=fun _=>by rw[aQ (by omega) (by omega)];omega
   rw[←kV]at g1;refine⟨t,q,vc ?_,g2,by omega,by omega⟩;simp only[jr.l0,w1 ()];refine vp (by omega) (vb hv ?_);simp only[ay];exact vp (by omega) g1
 obtain⟨n,hn,hm⟩:=acw l p [3,2,5,1,0,8] hl h0 (by omega) (by simp) (by simp);obtain⟨m,rfl,hm⟩:=OE hm 8 (by decide);obtain⟨t,q,g1,g2,g3,g4⟩:=key m [] (p+1) (by omega) (by omega) (by simp;omega);refine⟨t,q,?_,g2,by omega,by omega⟩;unfold jr.f;exact vb hn g1
theorem aj3(l:List Int)(hl:IsB l)(p:Int)(h0:0≤p)(h1:p≤500000000):∃a b:Str,Ev (fun k=>zG.f k l p) (aT a,aT b,p+2)∧a.length≤100∧b.length≤100:=by
 obtain⟨a,g1,h2⟩:=agA l p ([(⟨#[84,111]⟩:ByteArray),(⟨#[70,114,111,109]⟩:ByteArray),(⟨#[83,117,98,106,101,99,116]⟩:ByteArray),(⟨#[88,45,89]⟩:ByteArray),(⟨#[82,101,99,101,105,118,101,100]⟩:ByteArray),(⟨#[116,111]⟩:ByteArray),(⟨#[68,97,116,101]⟩:ByteArray)]:List ByteArray) 100 hl h0 (by omega) (by simp) (by simp) (by decide);obtain⟨b,g2,h3⟩:=agA l (p+1) ([(⟨#[]⟩:ByteArray),(⟨#[120]⟩:ByteArray),(⟨#[97,32,98]⟩:ByteArray),(⟨#[104,101,108,108,111,32,116,104,101,114,101,44,32,116,104,105,115,32,105,115,32,97,32,108,111,110,103,101,114,32,118,97,108,117,101,32,116,104,97,116,32,105,115,32,98,114,111,107,101,110]⟩:ByteArray),(⟨#[97,97,97,97,97,97,97,97,97,97,97,97,97,97,97,97,97,97,97,97,97,97,97,97,97,97,97,97,97,97,97,97,97,97,97,97,97,97,97,97,97,97,97,97,97,97,97,97,97,97,97,32,98]⟩:ByteArray),(⟨#[116,119,111,32,32,115,112,97,99,101,115,32,115,116,97,121,32,32,116,111,103,101,116,104,101,114,32,105,110,32,104,101,114,101,44,32,97,110,100,32,115,111,32,100,111,32,116,104,101,115,101,32,32,111,110,101,115]⟩:ByteArray),(⟨#[97,58,98]⟩:ByteArray),(⟨#[111,110,101,32,116,119,111,32,116,104,114,101,101,32,102,111,117,114,32,102,105,118,101,32,115,105,120,32,115,101,118,101,110,32,101,105,103,104,116,32,110,105,110,101,32,116,101,110,32,101,108,101,118,101,110]⟩:ByteArray)]:List ByteArray) 100 hl (by omega) (by omega) (by simp) (by simp) (by decide);refine⟨a,b,?_,h2,h3⟩;unfold zG.f;have e:p+1+1=p+2:=by omega
 rw[e]at g2;exact vb g1 (vb g2 (vs _))
theorem aj6(l:List Int)(hl:IsB l)(p:Int)(h0:0≤p)(h1:p≤100000000):∃(f:List (Str×Str)) (q:Int),Ev (fun k=>nU.f k l p) (f.map vW,q)∧f.length+C_ f≤1000∧p≤q∧q≤p+20:=by
 have key:∀(n:Nat) (f:List (Str×Str)) (p:Int),0≤p→p+2*n≤200000000→f.length+C_ f+201*n≤1000→∃(f2:List (Str×Str)) (q:Int),Ev (fun k=>nU.l0 k (f.map vW) (n:Int) l p) (f2.map vW,q)∧f2.length+C_ f2≤1000∧p≤q∧q≤p+2*n:=by
  intro n
  induction n with
  |zero=>
   intro f p h0 h1 h2;refine⟨f,p,vc ?_,by omega,by omega,by omega⟩;simp only[nU.l0];exact vn (by omega) (vs _)
  |succ n ih=>
   intro f p h0 h1 h2;obtain⟨a,b,g1,h3,h4⟩:=aj3 l hl p h0 (by omega);obtain⟨f2,q,g2,h5,h6,h7⟩:=ih (f++[(a,b)]) (p+2) (by omega) (by omega) (by rw[GU];simp[C_];omega);have w1:Unit→wrap64 (((n+1:Nat):Int)-1)=(n:Int):=fun _=>by rw[aQ (by omega) (by omega)];omega
   rw[List.map_append,List.map_singleton]at g2;refine⟨f2,q,vc ?_,h5,by omega,by omega⟩;simp only[nU.l0,w1 (),List.length_map];exact vp (by omega) (vb g1 (vp (by omega) g2))
 obtain⟨n,hn,hm⟩:=acw l p [2,3,1,0,4] hl h0 (by omega) (by simp) (by simp);obtain⟨m,rfl,hm⟩:=OE hm 4 (by decide);obtain⟨f,q,g1,g2,g3,g4⟩:=key m [] (p+1) (by omega) (by omega) (by simp[C_];omega);refine⟨f,q,?_,g2,by omega,by omega⟩;unfold nU.f;exact vb hn g1
theorem aj7(l:List Int)(hl:IsB l)(p:Int)(h0:0≤p)(h1:p≤10000000):∃(f:List (Str×Str)) (b:List Str) (q:Int),Ev (fun k=>jf.f k l p) (f.map vW,b.map aT,([]:List kE),q)∧sz3 f b []≤19000∧p≤q∧q≤p+60:=by
 have key:∀(f:List (Str×Str)) (n:Nat) (b:List Str) (p:Int),0≤p→p+n≤200000000→b.length+o8 b+101*n≤1000→∃(b2:List Str) (q:Int),Ev (fun k=>jf.l0 k (n:Int) l p (f.map vW) (b.map aT)) (f.map vW,b2.map aT,([]:List kE),q)∧b2.length+o8 b2≤1000∧p≤q∧q≤p+n:=by
  intro f n
  induction n with
  |zero=>
   intro b p h0 h1 h2;refine⟨b,p,vc ?_,by omega,by omega,by omega⟩;simp only[jf.l0];exact vn (by omega) (vs _)
  |succ n ih=>
   intro b p h0 h1 h2;obtain⟨v,g1,h3⟩:=agA l p ([(⟨#[97]⟩:ByteArray),(⟨#[]⟩:ByteArray),(⟨#[116,101,120,116,32,111,102,32,97,32,108,105,110,101]⟩:ByteArray),(⟨#[45,45,98,49]⟩:ByteArray),(⟨#[45,45,120]⟩:ByteArray)]:List ByteArray) 100 hl h0 (by omega) (by simp) (by simp) (by decide);obtain⟨b2,q,g2,h5,h6,h7⟩:=ih (b++[v]) (p+1) (by omega) (by omega) (by rw[AA];simp;omega);have w1:Unit→wrap64 (((n+1:Nat):Int)-1)=(n:Int):=fun _=>by rw[aQ (by omega) (by omega)];omega
   rw[List.map_append,List.map_singleton]at g2;refine⟨b2,q,vc ?_,h5,by omega,by omega⟩;simp only[jf.l0,w1 (),List.length_map];exact vp (by omega) (vb g1 (vp (by omega) g2))
 obtain⟨i,hi,i0,i1⟩:=Ku l p 2 hl h0 (by omega) (by omega) (by omega);unfold jf.f;by_cases c:i=0
 ·obtain⟨v,g1,h2⟩:=agA l (p+1) ([(⟨#[104,101,108,108,111]⟩:ByteArray),(⟨#[90,111,195,171]⟩:ByteArray),(⟨#[]⟩:ByteArray)]:List ByteArray) 100 hl (by omega) (by omega) (by simp) (by simp) (by decide);obtain⟨s,q,g2,h3,h4,h5⟩:=aj2 l hl (p+1+1) (by omega) (by omega);obtain⟨f,b,ok,g3,h6⟩:=aeD v s (by omega) h3;exact⟨f,b,q,vb hi (vp c (vb g1 (vb g2 (vb g3 (vs _))))),h6,by omega,by omega⟩
 ·obtain⟨f,q,g1,h2,h3,h4⟩:=aj6 l hl (p+1) (by omega) (by omega);obtain⟨n,hn,hm⟩:=acw l q [1,2,0,3] hl (by omega) (by omega) (by simp) (by simp);obtain⟨m,rfl,hm⟩:=OE hm 3 (by decide);obtain⟨b,q2,g2,h5,h6,h7⟩:=key f m [] (q+1) (by omega) (by omega) (by simp[o8];omega);exact⟨f,b,q2,vb hi (vn c (vb g1 (vb hn g2))),by unfold sz3;simp only[GH,List.length_nil];omega,by omega,by omega⟩
def dB:Nat→Nat
 |0=>19000
 |d+1=>3*dB d+1000
def dQ:Nat→Nat
 |0=>64
 |d+1=>3*dQ d+10
theorem apm(f:List (Str×Str))(b:List Str)(k:List Pt):OD (.mk f b k)=sz3 f b k:=by rw[OD];rfl
theorem aIu(d:Nat):19000≤dB d∧64≤dQ d:=by
 induction d with
 |zero=>exact⟨Nat.le_refl _,Nat.le_refl _⟩
 |succ d ih=>unfold dB dQ;omega
theorem aj8(l:List Int)(hl:IsB l):∀d:Nat,d≤2→∀p:Int,0≤p→p+dQ d≤1000000→∃(f:List (Str×Str)) (b:List Str) (k:List Pt) (q:Int),Ev (fun n=>eP.f n l p ((d+1:Nat):Int)) (f.map vW,b.map aT,k.map e32,q)∧sz3 f b k≤dB d∧p≤q∧q≤p+dQ d:=by
 have leaf:∀(d:Nat) (x1 p p0:Int),0≤p→p≤2000000→p0≤p→p≤p0+1→∃(f:List (Str×Str)) (b:List Str) (k:List Pt) (q:Int),Ev (fun n=>eP.j0 n x1 true l p) (f.map vW,b.map aT,k.map e32,q)∧sz3 f b k≤dB d∧p0≤q∧q≤p0+dQ d:=by
  intro d x1 p p0 h0 h1 h2 h3;obtain⟨f,b,q,g1,h4,h5,h6⟩:=aj7 l hl p h0 (by omega);have hd:=aIu d;refine⟨f,b,[],q,vc ?_,by omega,by omega,by omega⟩;simp only[eP.j0];exact vp trivial (vb g1 (vs _))
 intro d
 induction d with
 |zero=>
  intro _ p h0 h1;obtain⟨f,b,k,q,g1,h2,h3,h4⟩:=leaf 0 ((0+1:Nat):Int) p p h0 (by omega) (by omega) (by omega);refine⟨f,b,k,q,vc ?_,h2,h3,h4⟩;simp only[eP.f];exact vp (by omega) g1
 |succ d ih=>
  intro hd2 p h0 h1
  have hdb:dB d≤100000∧dQ d≤1000:=by
   have:d=0∨d=1:=by omega
   rcases this with rfl|rfl<;>decide
  have eB:dB (d+1)=3*dB d+1000:=rfl;have eQ:dQ (d+1)=3*dQ d+10:=rfl;have w0:Unit→wrap64 (((d+1+1:Nat):Int)-1)=((d+1:Nat):Int):=fun _=>by rw[aQ (by omega) (by omega)];omega
  have key:∀(F:List eG) (n:Nat),n≤3→∀(kk:List Pt) (p:Int),0≤p→p+n*dQ d≤1000000→kk.length+GH kk+n*(dB d+1)≤3*dB d+3→∃(k:List Pt) (q:Int),Ev (fun m=>eP.l0 m ((d+1+1:Nat):Int) (n:Int) l p F (kk.map e32)) (F,([]:List ByteArray),k.map e32,q)∧k.length+GH k≤3*dB d+3∧p≤q∧q≤p+n*dQ d:=by
   intro F n
   induction n with
   |zero=>
    intro _ kk p h0 h1 h2;refine⟨kk,p,vc ?_,by omega,by omega,by omega⟩;simp only[eP.l0];exact vn (by omega) (vs _)
   |succ n ihn=>
    intro hn3 kk p h0 h1 h2;rw[Nat.succ_mul]at h2;have m1:(((n+1:Nat):Int))*(dQ d:Int)=(n:Int)*(dQ d:Int)+(dQ d:Int):=by rw[Int.natCast_add,Int.add_mul];simp
    have m2:(0:Int)≤(n:Int)*(dQ d:Int):=Int.mul_nonneg (by omega) (by omega);rw[m1]at h1;obtain⟨f,b,k,q,g1,h3,h4,h5⟩:=ih (by omega) p h0 (by omega);have hs:=apm f b k;obtain⟨k2,q2,g2,h6,h7,h8⟩:=ihn (by omega) (kk++[.mk f b k]) q (by omega) (by omega) (by rw[aeC];simp only[List.length_append,List.length_cons,List.length_nil,GH];omega);have w1:Unit→wrap64 (((n+1:Nat):Int)-1)=(n:Int):=fun _=>by rw[aQ (by omega) (by omega)];omega
    have hkk:kk.length≤1000000:=by
     have:0≤n*(dB d+1):=Nat.zero_le _;omega
    rw[List.map_append,List.map_singleton,Gz]at g2;refine⟨k2,q2,vc ?_,h6,by omega,by rw[m1];omega⟩;simp only[eP.l0,w1 (),w0 (),List.length_map];clear w1 w0;exact vp (by omega) (vb g1 (vp (by omega) g2))
  obtain⟨i,hi,i0,i1⟩:=Ku l p 2 hl h0 (by omega) (by omega) (by omega);by_cases c:i=0
  ·obtain⟨f,b,k,q,g1,h2,h3,h4⟩:=leaf (d+1) ((d+1+1:Nat):Int) (p+1) p (by omega) (by omega) (by omega) (by omega);refine⟨f,b,k,q,vc ?_,h2,h3,h4⟩;simp only[eP.f];refine vn (by omega) (vb hi ?_);rw[c];exact g1
  ·obtain⟨v,g1,h2⟩:=agA l (p+1) ([(⟨#[109,117,108,116,105,112,97,114,116,47,109,105,120,101,100,59,32,98,111,117,110,100,97,114,121,61,98,48]⟩:ByteArray),(⟨#[77,117,108,116,105,112,97,114,116,47,97,108,116,101,114,110,97,116,105,118,101,59,32,66,111,117,110,100,97,114,121,61,98,50]⟩:ByteArray),(⟨#[109,117,108,116,105,112,97,114,116,47,109,105,120,101,100,59,32,98,111,117,110,100,97,114,121,61,120,121,122]⟩:ByteArray)]:List ByteArray) 100 hl (by omega) (by omega) (by simp) (by simp) (by decide);obtain⟨n,hn,hm⟩:=acw l (p+1+1) [2,1,3] hl (by omega) (by omega) (by simp) (by simp);obtain⟨m,rfl,hm2⟩:=OE hm 3 (by decide);obtain⟨f,k1,k2,k3⟩:=fields_of ([(⟨(⟨#[83,117,98,106,101,99,116]⟩:ByteArray),(⟨#[109,97,110,121]⟩:ByteArray)⟩:eG),(⟨(⟨#[67,111,110,116,101,110,116,45,84,121,112,101]⟩:ByteArray),aT v⟩:eG)]:List (eG))
   have e:C_ f≤300:=by
    rw[k2];have:szR ([(⟨(⟨#[83,117,98,106,101,99,116]⟩:ByteArray),(⟨#[109,97,110,121]⟩:ByteArray)⟩:eG),(⟨(⟨#[67,111,110,116,101,110,116,45,84,121,112,101]⟩:ByteArray),aT v⟩:eG)]:List (eG))=_:=rfl;simp only[szR,ay];have hA:∀a b c x:Nat,a+b≤100→c≤100→x≤100→a+b+(c+x+0)≤300:=by intros;omega
    exact hA _ _ _ _ (by decide) (by decide) h2
   have e2:f.length=2:=k3;have hmq:(m:Int)*(dQ d:Int)≤3*(dQ d:Int):=Int.mul_le_mul_of_nonneg_right (by omega) (by omega);have hmb:m*(dB d+1)≤3*(dB d+1):=Nat.mul_le_mul_right _ hm2;obtain⟨k,q,g2,h3,h4,h5⟩:=key ([(⟨(⟨#[83,117,98,106,101,99,116]⟩:ByteArray),(⟨#[109,97,110,121]⟩:ByteArray)⟩:eG),(⟨(⟨#[67,111,110,116,101,110,116,45,84,121,112,101]⟩:ByteArray),aT v⟩:eG)]:List (eG)) m hm2 [] (p+1+1+1) (by omega) (by omega) (by simp[GH];omega);refine⟨f,[],k,q,vc ?_,by unfold sz3;simp only[o8,List.length_nil];omega,by omega,by omega⟩;rw[←k1];simp only[eP.f];refine vn (by omega) (vb hi ?_);have hf:(i==0)=false:=by simp[c]
   simp only[hf];refine vc ?_;simp only[eP.j0];exact vn (by simp) (vb g1 (vb hn g2))
theorem aY8(l:List Int)(hl:IsB l)(p:Int)(h0:0≤p)(h1:p≤1000000)(f:List (Str×Str))(b:List Str)(k:List Pt)(hs:sz3 f b k≤500000):
  ∃(f2:List (Str×Str)) (b2:List Str) (k2:List Pt) (q:Int),Ev (fun n=>fD.f n l p (f.map vW) (b.map aT) (k.map e32)) (f2.map vW,b2.map aT,k2.map e32,q)∧sz3 f2 b2 k2≤sz3 f b k+20000∧p≤q∧q≤p+70:=by
 have cp:=aY9 (.mk f b k) (by rw[apm];omega);rw[Gz]at cp;obtain⟨i,hi,i0,i1⟩:=Ku l p 20 hl h0 (by omega) (by omega) (by omega);have hs0:=hs;unfold sz3 at hs0;unfold fD.f;by_cases c0:i=0
 ·obtain⟨v,g1,h2⟩:=agA l (p+1) ([(⟨#[10]⟩:ByteArray),(⟨#[120]⟩:ByteArray)]:List ByteArray) 100 hl (by omega) (by omega) (by simp) (by simp) (by decide);refine⟨f,b++[v],k,p+1+1,vb cp (vb hi (vp c0 (vb g1 (vp (by rw[List.length_map];omega) (vq (vs _) (by simp)))))),by unfold sz3;rw[AA];simp;omega,by omega,by omega⟩
 by_cases c1:i=1
 ·obtain⟨v,g1,h2⟩:=agA l (p+1) ([(⟨#[97,32,98]⟩:ByteArray),(⟨#[79,107]⟩:ByteArray)]:List ByteArray) 100 hl (by omega) (by omega) (by simp) (by simp) (by decide);obtain⟨u,g2,h3⟩:=agA l (p+1+1) ([(⟨#[32,120]⟩:ByteArray),(⟨#[120]⟩:ByteArray)]:List ByteArray) 100 hl (by omega) (by omega) (by simp) (by simp) (by decide);refine⟨f++[(v,u)],b,k,p+1+1+1,vb cp (vb hi (vn c0 (vp c1 (vb g1 (vb g2 (vp (by rw[List.length_map];omega) (vq (vs _) (by simp[vW])))))))),by unfold sz3;rw[GU];simp[C_];omega,by omega,by omega⟩
 by_cases c2:i=2
 ·obtain⟨g,c,q,g1,h2,h3,h4⟩:=aj7 l hl (p+1) (by omega) (by omega)
  have e:k.map e32++[(⟨g.map vW,c.map aT,([]:List kE)⟩:kE)]=(k++[Pt.mk g c []]).map e32:=by
   rw[List.map_append,List.map_singleton,Gz];rfl
  refine⟨f,b,k++[Pt.mk g c []],q,vb cp (vb hi (vn c0 (vn c1 (vp c2 (vb g1 (vp (by rw[List.length_map];omega) (vq (vs _) (by rw[←e]))))))))
   ,by unfold sz3;rw[aeC];simp only[GH,apm,List.length_append,List.length_cons,List.length_nil];omega,by omega,by omega⟩
 ·exact⟨f,b,k,p+1,vb cp (vb hi (vn c0 (vn c1 (vn c2 (vs _))))),by omega,by omega,by omega⟩
theorem aY_(l:List Int)(h:∀x∈l,(Lit.int .u8 x).wf=true):∃p:Pt,Ev (fun k=>D9.f k l) ((e32 p).f0,(e32 p).f1,(e32 p).f2)∧OD p≤500000:=by
 obtain⟨l2,ho,hl⟩:=ar6 l h;have e1:dB 2=175000:=by decide
 have e2:dQ 2=616:=by decide
 obtain⟨f,b,k,q,g1,h1,h2,h3⟩:=aj8 l2 hl 2 (by omega) 0 (by omega) (by omega);obtain⟨f2,b2,k2,q2,g2,h4,h5,h6⟩:=aY8 l2 hl q (by omega) (by omega) f b k (by omega);unfold D9.f;refine⟨.mk f2 b2 k2,?_,by rw[apm];omega⟩;rw[Gz];exact jD ho (vb g1 (vb g2 (vs _)))
theorem ai_(l:List Int)(h:∀x∈l,(Lit.int .u8 x).wf=true):∃p:Pt,Ev (fun k=>qW.f k l) ((e32 p).f0,(e32 p).f1,(e32 p).f2)∧OD p≤500000:=by
 obtain⟨p,g,hp⟩:=aY_ l h;exact⟨p,by unfold qW.f;exact vb g (vs _),hp⟩
theorem av7{g:Pt→Option (List Str)}:∀{k:List Pt} {ls:List (List Str)},kl g k=some ls→∀p∈k,(g p).isSome=true
 |[],_,_,_,hp=>by cases hp
 |p:: r,ls,h,q,hq=>by
  rw[kl]at h
  cases e:g p with
  |none=>rw[e]at h;cases h
  |some a=>
   rw[e]at h
   cases e2:kl g r with
   |none=>rw[e2]at h;cases h
   |some l=>
    rcases List.mem_cons.mp hq with rfl|hq
    ·rw[e];rfl
    ·exact av7 e2 q hq
theorem agB{d:Nat}{f:List (Str×Str)}{b:List Str}{k:List Pt}(h:(lines (d+1) (.mk f b k)).isSome=true):k.length≤4∧∀p∈k,(lines d p).isSome=true:=by
 rw[lines]at h;by_cases c:fvs f=true
 ·rw[if_pos c]at h;by_cases c1:(bF f).2=true
  ·rw[if_pos c1]at h;by_cases c2:b=[]∧1≤k.length∧k.length≤4
   ·rw[if_pos c2]at h
    cases e:kl (lines d) k with
    |none=>rw[e]at h;cases h
    |some l=>exact⟨c2.2.2,av7 e⟩
   ·rw[if_neg c2]at h;cases h
  ·rw[if_neg c1]at h;by_cases c2:k=[]∧tbs b=true
   ·rw[c2.1];exact⟨by simp,fun _ h=>by cases h⟩
   ·rw[if_neg c2]at h;cases h
 ·rw[if_neg c]at h;cases h
theorem aiY:∀(k l:List Pt),(∀p∈k,∀q,smt p q=true↔p=q)→k.length=l.length→(aeg k l=true↔k=l):=by
 intro k
 induction k with
 |nil=>
  intro l _ hl
  cases l with
  |nil=>simp[aeg]
  |cons=>simp at hl
 |cons p k ih=>
  intro l h hl
  cases l with
  |nil=>simp at hl
  |cons q l=>
   have h1:=h p (by simp) q;have h2:=ih l (fun x hx=>h x (by simp[hx])) (by simpa using hl);rw[aeg,Bool.and_eq_true,h1,h2,List.cons.injEq]
theorem apn(p:Pt):∀q,smt p q=true↔p=q:=by
 refine agl (P:=fun p=>∀q,smt p q=true↔p=q) ?_ p;intro f b k ih q
 cases q with
 |mk g c l=>
  rw[smt,Bool.and_eq_true,Bool.and_eq_true,Bool.and_eq_true,decide_eq_true_eq,decide_eq_true_eq,decide_eq_true_eq,Pt.mk.injEq];constructor
  ·rintro⟨h1,h2,h3,h4⟩;exact⟨h1,h2,(aiY k l ih h3).mp h4⟩
  ·rintro⟨h1,h2,h3⟩;have hl:k.length=l.length:=by rw[h3]
   exact⟨h1,h2,hl,(aiY k l ih hl).mpr h3⟩
theorem Lc(a b:List Str)(hn:a.length≤1000000000000000):Ev (fun k=>lD.f k (a.map aT) (b.map aT)) (decide (a=b)):=by
 unfold lD.f;simp only[List.length_map];by_cases hl:a.length=b.length
 ·refine vp (by omega) ?_
  refine vq (oD (xs:=a) (F:=fun k (_:List Str) i=>lD.l0 k (a.map aT) (b.map aT) i) (st:=fun r c=>match r with
   |[]=> .inl false
   |d:: r=>if c=d then .inr r else .inl false) (fin:=fun _=>true) (s:=b) (fun p r=>∃q,b=q++r∧q.length=p.length) ⟨[],rfl,rfl⟩ ?_ ?_) ?_
  ·rintro p c r s h ⟨q,hq,hql⟩;have hz:=gZ h;have e1:=nX h;have w1:wrap64 ((p.length:Int)+1)=(p.length:Int)+1:=aQ (by omega) (by omega)
   cases s with
   |nil=>rw[hq]at hl;simp at hl;omega
   |cons d s=>
    have e2:=nX hq;rw[hql]at e2;simp only[lD.l0,e1,e2,w1,List.length_map,jv];clear w1 e1 e2;by_cases e:c=d
    ·simp only[if_pos e];refine⟨(fun v hv=>by cases hv),fun s' hs=>⟨?_,fun v hv=>?_⟩⟩
     ·cases hs;exact⟨q++[d],by rw[hq];simp,by simp[hql]⟩
     ·exact vp (by omega) (vp (by omega) (vp (by omega) hv))
    ·simp only[if_neg e];refine⟨(fun v hv=>?_),fun s' hs=>by cases hs⟩;cases hv;exact vp (by omega) (vp (by omega) (vp (by omega) (vs _)))
  ·intro s _;simp only[lD.l0,List.length_map];exact vn (by omega) (vs _)
  ·clear hn
   induction a generalizing b with
   |nil=>cases b with
    |nil=>rfl
    |cons d b=>simp at hl
   |cons c a ih=>cases b with
    |nil=>simp at hl
    |cons d b=>
     unfold run;by_cases e:c=d
     ·simp only[if_pos e];rw[ih b (by simpa using hl)];simp[e]
     ·simp only[if_neg e];simp[e]
 ·refine vn (by omega) (vq (vs _) ?_);rw[eq_comm];exact decide_eq_false (fun h=>hl (by rw[h]))
def fmt(p:Pt):List ByteArray×Bool:=match lines 3 p with
 |some ls=>(ls.map aT,true)
 |none=>([],false)
theorem G8(p:Pt)(hp:OD p≤1048576):Ev (fun k=>mY.f k (e32 p).f0 (e32 p).f1 (e32 p).f2) (fmt p):=by
 unfold mY.f fmt;obtain⟨v,hv,hr⟩:=K_ 3 p (by omega) hp;refine vb hv ?_
 cases e:lines 3 p with
 |none=>
  rw[e]at hr;have hr':v.2=false:=hr;exact vn (by simp[hr']) (vs _)
 |some ls=>
  rw[e]at hr;have hr':v=(ls.map aT,true):=hr;rw[hr'];exact vp rfl (vs _)
theorem G9(p:Pt)(hp:OD p≤1048576):Ev (fun k=>nY.f k (e32 p).f0 (e32 p).f1 (e32 p).f2) (fmt p):=by
 unfold nY.f fmt;refine vb (IK p hp) ?_
 cases e:lines 3 p with
 |none=>exact vn (by simp) (vs _)
 |some ls=>exact vp rfl (vb (JJ 3 p ls (by omega) hp e) (vs _))
def sp(b:Str):List Str→Option (List (List Str)×List Str)→Option (List (List Str))
 |[],_=>none
 |l:: r,none=>if l=dash b then sp b r (some ([],[]))else sp b r none
 |l:: r,some (q,c)=>if l=dash b then sp b r (some (q++[c],[]))else if l=fin2 b then some (q++[c])else sp b r (some (q,c++[l]))
def spR(b:Str)(ls:List Str):Option (List (List Str)):=if FH b=true then sp b ls none else none
def Ld(o:Option (List (List Str))):List (List ByteArray)×Bool:=match o with
 |none=>([],false)
 |some l=>(l.map (List.map aT),true)
def agC(b:Str)(s:Option (List (List Str)×List Str))(l:Str):(List (List ByteArray)×Bool) ⊕ Option (List (List Str)×List Str):=match s with
 |none=>if l=dash b then .inr (some ([],[]))else .inr none
 |some (q,c)=>if l=dash b then .inr (some (q++[c],[]))else if l=fin2 b then .inl (Ld (some (q++[c])))else .inr (some (q,c++[l]))
theorem apo(b:Str)(r:List Str):∀s,run (agC b) (fun _=>Ld none) r s=Ld (sp b r s):=by
 induction r with
 |nil=>intro s;rfl
 |cons l r ih=>
  intro s;unfold run
  cases s with
  |none=>
   simp only[agC,sp];by_cases h:l=dash b
   ·simp only[if_pos h,ih]
   ·simp only[if_neg h,ih]
  |some s=>
   obtain⟨q,c⟩:=s;simp only[agC,sp];by_cases h:l=dash b
   ·simp only[if_pos h,ih]
   ·by_cases h2:l=fin2 b
    ·simp only[if_neg h,if_pos h2]
    ·simp only[if_neg h,if_neg h2,ih]
def CZ:Option (List (List Str)×List Str)→Nat
 |none=>0
 |some (q,c)=>q.length+1+c.length
theorem aiZ(b:Str)(r:List Str):∀(s:Option (List (List Str)×List Str)) (o:List (List Str)),sp b r s=some o→tl o+1≤r.length+(match s with
  |none=>0
  |some (q,c)=>tl q+1+c.length)∧o≠[]:=by
 induction r with
 |nil=>intro s o h;cases h
 |cons l r ih=>
  intro s o h;simp only[List.length_cons]
  cases s with
  |none=>
   simp only[sp]at h⊢;by_cases h1:l=dash b
   ·rw[if_pos h1]at h;obtain⟨h2,h3⟩:=ih _ _ h;simp only[tl,List.length_nil]at h2;exact⟨by omega,h3⟩
   ·rw[if_neg h1]at h;obtain⟨h2,h3⟩:=ih _ _ h;simp only at h2;exact⟨by omega,h3⟩
  |some s=>
   obtain⟨q,c⟩:=s;simp only[sp]at h⊢;by_cases h1:l=dash b
   ·rw[if_pos h1]at h;obtain⟨h2,h3⟩:=ih _ _ h;simp only[DJ,tl,List.length_nil]at h2;exact⟨by omega,h3⟩
   ·rw[if_neg h1]at h;by_cases h4:l=fin2 b
    ·rw[if_pos h4]at h;cases h;simp only[DJ,tl];exact⟨by omega,by simp⟩
    ·rw[if_neg h4]at h;obtain⟨h2,h3⟩:=ih _ _ h;simp only[List.length_append,List.length_cons,List.length_nil]at h2;exact⟨by omega,h3⟩
theorem apq(b:Str)(r:List Str):∀(s:Option (List (List Str)×List Str)) (o:List (List Str)),sp b r s=some o→(∀q c,s=some (q,c)→(q.any (fun x=>dv x b)=false∧dv c b=false))→o.any (fun x=>dv x b)=false:=by
 induction r with
 |nil=>intro s o h;cases h
 |cons l r ih=>
  intro s o h hs;have hnil:dv [] b=false:=by unfold dv;simp
  cases s with
  |none=>
   simp only[sp]at h;by_cases h1:l=dash b
   ·rw[if_pos h1]at h;exact ih _ _ h (fun q c e=>by cases e;exact⟨rfl,hnil⟩)
   ·rw[if_neg h1]at h;exact ih _ _ h (fun q c e=>by cases e)
  |some s=>
   obtain⟨q,c⟩:=s;obtain⟨hq,hc⟩:=hs q c rfl;simp only[sp]at h;have hqc:(q++[c]).any (fun x=>dv x b)=false:=by rw[List.any_append,hq];simp[hc]
   by_cases h1:l=dash b
   ·rw[if_pos h1]at h;exact ih _ _ h (fun q' c' e=>by cases e;exact⟨hqc,hnil⟩)
   ·rw[if_neg h1]at h;by_cases h4:l=fin2 b
    ·rw[if_pos h4]at h;cases h;exact hqc
    ·rw[if_neg h4]at h
     refine ih _ _ h (fun q' c' e=>by
      cases e;refine⟨hq,?_⟩;rw[aeu]at hc⊢;rw[List.any_append,hc];simp[lk,h1,h4])
theorem ai0(b:Str)(c:List Str):∀(rest:List Str) (q:List (List Str)) (d:List Str),dv c b=false→sp b (c++rest) (some (q,d))=sp b rest (some (q,d++c)):=by
 induction c with
 |nil=>intro rest q d _;simp
 |cons l c ih=>
  intro rest q d h;rw[aeu,List.any_cons,Bool.or_eq_false_iff,←aeu]at h;obtain⟨h1,h2⟩:=h;simp only[lk,Bool.or_eq_false_iff,decide_eq_false_iff_not]at h1;rw[List.cons_append,sp,if_neg h1.1,if_neg h1.2,ih rest q (d++[l]) h2];simp
theorem aIv(b:Str)(ps:List (List Str)):∀(q:List (List Str)) (d:List Str) (rest:List Str),ps.any (fun x=>dv x b)=false→sp b (jb b ps++fin2 b:: rest) (some (q,d))=some (q++[d]++ps):=by
 induction ps with
 |nil=>
  intro q d rest _;simp only[jb,List.nil_append,sp];rw[if_neg (fun h=>aev b h.symm),if_pos trivial];simp
 |cons c r ih=>
  intro q d rest h;rw[List.any_cons,Bool.or_eq_false_iff]at h;simp only[jb,List.cons_append,sp];rw[if_pos trivial,List.append_assoc,ai0 b c _ _ _ h.1,ih _ _ _ h.2];simp
theorem asc(b:Str)(ps:List (List Str))(rest:List Str)(h:ps.any (fun x=>dv x b)=false)(hne:ps≠[]):sp b (jb b ps++fin2 b:: rest) none=some ps:=by
 cases ps with
 |nil=>exact absurd rfl hne
 |cons c r=>
  rw[List.any_cons,Bool.or_eq_false_iff]at h;simp only[jb,List.cons_append,sp];rw[if_pos trivial,List.append_assoc,ai0 b c _ _ _ h.1,aIv b r _ _ _ h.2];simp
theorem acE{b:Str}{ps:List (List Str)}{s:List Str}(h:jR b ps=some s):FH b=true∧ps≠[]∧ps.any (fun c=>dv c b)=false∧s=jb b ps++[fin2 b]:=by
 unfold jR at h;split at h
 ·rename_i h1
  cases h;exact⟨h1.1,h1.2.1,h1.2.2,rfl⟩
 ·cases h
theorem Zp{b:Str}{ls:List Str}{ps:List (List Str)}(h:spR b ls=some ps):FH b=true∧sp b ls none=some ps∧tl ps+1≤ls.length∧ps≠[]∧ps.any (fun c=>dv c b)=false:=by
 unfold spR at h;split at h
 ·rename_i h1
  obtain⟨h2,h3⟩:=aiZ b ls none ps h;exact⟨h1,h,by simpa using h2,h3,apq b ls none ps h (fun q c e=>by cases e)⟩
 ·cases h
theorem apr{b:Str}{ps:List (List Str)}(rest:List Str)(h1:FH b=true)(h2:ps≠[])(h3:ps.any (fun c=>dv c b)=false):spR b (jb b ps++fin2 b:: rest)=some ps:=by
 unfold spR;rw[if_pos h1];exact asc b ps rest h3 h2
def aps:Option (List (List Str)×List Str)→List (List Str)
 |none=>[]
 |some (q,c)=>q++[c]
theorem aj9(q:List (List Str))(c:List Str):lV ((q++[c]).map (List.map aT)) (q.length:Int)=c.map aT:=GI (p:=q) (r:=[]) rfl
theorem Qy(ls:List Str)(b:Str)(hb:b.length≤1000000000000)(hn:ls.length≤1000000000000):Ev (fun k=>iy.f k (ls.map aT) (aT b)) (Ld (spR b ls)):=by
 have hd:=JG b;unfold iy.f spR;refine vb (Ba b (by omega)) ?_
 cases e1:FH b with
 |false=>exact vn (by simp) (vs _)
 |true=>
  refine vp rfl ?_;rw[if_pos rfl,←apo,List.length_map];refine oD (xs:=ls) (F:=fun k (s:Option (List (List Str)×List Str)) i=>iy.l0 k (aT b) ((aps s).map (List.map aT)) (ls.map aT) (ls.length:Int) i) (s:=none) (fun p s=>CZ s≤p.length) (by simp[CZ]) ?_ ?_
  ·intro p l r s h hs;have hz:=gZ h;have e1:=nX h;have w1:wrap64 ((p.length:Int)+1)=(p.length:Int)+1:=aQ (by omega) (by omega);simp only[iy.l0,e1,w1,List.length_map,jv,yw,D5,ay];clear w1 e1
   cases s with
   |none=>
    simp only[agC,aps,List.length_nil];by_cases h1:l=dash b
    ·simp only[if_pos h1];refine⟨(fun v hv=>by cases hv),fun s' hs'=>⟨?_,fun v hv=>?_⟩⟩
     ·cases hs';simp[CZ]
     ·cases hs';exact vp (by omega) (vp (by omega) (vp (by omega) (vp (by omega) (vp (by omega) hv))))
    ·simp only[if_neg h1];refine⟨(fun v hv=>by cases hv),fun s' hs'=>⟨?_,fun v hv=>?_⟩⟩
     ·cases hs';simp[CZ]
     ·cases hs';exact vp (by omega) (vp (by omega) (vp (by omega) (vp (by omega) (vp (by simp) hv))))
   |some s=>
    obtain⟨q,c⟩:=s;simp only[CZ]at hs;have w2:wrap64 (((q.length+1:Nat):Int)-1)=(q.length:Int):=(aQ (by omega) (by omega)).trans (by omega);have hl2:(q++[c]).length=q.length+1:=by simp
    simp only[agC,aps,hl2,w2,aj9,List.length_map];clear w2 hl2;by_cases h1:l=dash b
    ·simp only[if_pos h1];refine⟨(fun v hv=>by cases hv),fun s' hs'=>⟨?_,fun v hv=>?_⟩⟩
     ·cases hs';simp[CZ];omega
     ·cases hs';refine vp (by omega) (vp (by omega) (vp (by omega) (vp (by omega) (vp (by omega) ?_))));have e5:(q++[c]).map (List.map aT)++[[]]=(q++[c]++[[]]).map (List.map aT):=by simp
      rw[e5];exact hv
    ·simp only[if_neg h1];by_cases h2:l=fin2 b
     ·simp only[if_pos h2];refine⟨(fun v hv=>?_),fun s' hs'=>by cases hs'⟩;cases hv;exact vp (by omega) (vp (by omega) (vp (by omega) (vp (by omega) (vn (by omega) (vp (by omega) (vs _))))))
     ·simp only[if_neg h2];refine⟨(fun v hv=>by cases hv),fun s' hs'=>⟨?_,fun v hv=>?_⟩⟩
      ·cases hs';simp[CZ];omega
      ·cases hs';refine vp (by omega) (vp (by omega) (vp (by omega) (vp (by omega) (vn (by omega) (vp (by omega) (vp (by omega) (vp (by omega) (vp (by omega) ?_))))))))
       have e5:((q++[c]).map (List.map aT)).set (q.length:Int).toNat (c.map aT++[aT l])=(q++[c++[l]]).map (List.map aT):=by
        rw[Int.toNat_natCast];simp
       rw[e5];exact hv
  ·intro s hs;simp only[iy.l0];exact vn (by omega) (vs _)
theorem EL(ps:List (List Str))(hn:tl ps≤1000000000000):Ev (fun k=>dV.f k (ps.map (List.map aT))) (ps.map (List.map aT)):=by
 have hl:=YZ ps;unfold dV.f;rw[List.length_map];refine vq (oD (xs:=ps) (F:=fun k (o:List (List Str)) i=>dV.l0 k (o.map (List.map aT)) (ps.map (List.map aT)) (ps.length:Int) i) (st:=fun o c=> .inr (o++[c])) (fin:=fun o=>o.map (List.map aT)) (s:=[]) (fun p o=>o=p) rfl ?_ ?_) ?_
 ·intro p c r o h ho;subst ho;have hz:=gZ h;have hc:c.length≤tl ps:=ao4 (by rw[h];simp);have e1:=GI h;have w1:wrap64 ((o.length:Int)+1)=(o.length:Int)+1:=aQ (by omega) (by omega);simp only[dV.l0,e1,w1,List.length_map,Option.bind_some,List.length_nil,List.nil_append];clear w1 e1;refine⟨(fun v hv=>by cases hv),fun s' hs=>⟨?_,fun v hv=>?_⟩⟩
  ·cases hs;rfl
  ·cases hs;refine vp (by omega) (vp (by omega) (vp (by omega) (vp (by omega) (vp (by omega) ?_))));have e5:o.map (List.map aT)++[c.map aT]=(o++[c]).map (List.map aT):=by simp
   rw[e5];exact hv
 ·intro s hs;simp only[dV.l0];exact vn (by omega) (vs _)
 ·have key:∀(r o:List (List Str)),run (fun o c=> .inr (o++[c])) (fun o:List (List Str)=>o.map (List.map aT)) r o=(o++r).map (List.map aT):=by
   intro r
   induction r with
   |nil=>intro o;simp[run]
   |cons c r ih=>intro o;unfold run;simp only;rw[ih];simp
  exact key ps []
def Jd:Option (List (List Str)×List Str)→Bool
 |none=>false
 |some _=>true
def spQ:Option (List (List Str)×List Str)→List (List Str)
 |none=>[]
 |some (q,_)=>q
def spC:Option (List (List Str)×List Str)→List Str
 |none=>[]
 |some (_,c)=>c
theorem aeE(ls:List Str)(b:Str)(hb:b.length≤1000000000000)(hn:ls.length≤1000000000000):Ev (fun k=>aK.f k (ls.map aT) (aT b)) (Ld (spR b ls)):=by
 have hd:=JG b
 have hbad:∀(s:Option (List (List Str)×List Str)) (i:Int),Ev (fun k=>aK.j1 k (ls.map aT) (aT b) ((spQ s).map (List.map aT)) ((spC s).map aT) (Jd s) i false) (Ld none):=by
  intro s i;refine vc ?_;simp only[aK.j1];exact vn (by simp) (vs _)
 unfold aK.f spR
 cases e1:FH b with
 |false=>
  rw[if_neg (by simp)];refine vc ?_;simp only[aK.l0,List.length_map];by_cases hl:(0:Int)<(ls.length:Int)
  ·have:=xP b (by omega);rw[e1]at this;exact vp hl (vb this (hbad none 0))
  ·exact vn hl (hbad none 0)
 |true=>
  rw[if_pos rfl,←apo];have hbd:=xP b (by omega);rw[e1]at hbd;refine oD (xs:=ls) (F:=fun k (s:Option (List (List Str)×List Str)) i=>aK.l0 k (ls.map aT) (aT b) ((spQ s).map (List.map aT)) ((spC s).map aT) (Jd s) i) (s:=none) (fun p s=>CZ s≤p.length) (by simp[CZ]) ?_ ?_
  ·intro p l r s h hs;have hz:=gZ h;have e1:=nX h;have w1:wrap64 ((p.length:Int)+1)=(p.length:Int)+1:=aQ (by omega) (by omega);simp only[aK.l0,List.length_map];have hgo:∀v,Ev (fun k=>aK.j1 k (ls.map aT) (aT b) ((spQ s).map (List.map aT)) ((spC s).map aT) (Jd s) (p.length:Int) true) v→Ev (fun k=>if(p.length:Int)<(ls.length:Int)then((bW.f k (aT b)).bind fun t182=>aK.j1 k (ls.map aT) (aT b) ((spQ s).map (List.map aT)) ((spC s).map aT) (Jd s) (p.length:Int) t182)else aK.j1 k (ls.map aT) (aT b) ((spQ s).map (List.map aT)) ((spC s).map aT) (Jd s) (p.length:Int) false) v:=fun v hv=>vp (by omega) (vb hbd hv)
   cases s with
   |none=>
    simp only[agC];refine⟨(fun v hv=>by split at hv<;>cases hv),fun s' hs'=>?_⟩;by_cases h1:l=dash b
    ·rw[if_pos h1]at hs';cases hs';refine⟨by simp[CZ],fun v hv=>hgo v (vc ?_)⟩;simp only[aK.j1,e1,w1,List.length_map,jv,yw,D5,ay,if_pos h1,Jd];clear w1 e1;exact vp trivial (vp (by omega) (vp (by omega) (vp (by omega) (vn (by simp) hv))))
    ·rw[if_neg h1]at hs';cases hs';refine⟨by simp[CZ],fun v hv=>hgo v (vc ?_)⟩
     have hj2:Ev (fun k=>aK.j2 k (ls.map aT) (aT b) ((spQ none).map (List.map aT)) ((spC none).map aT) false (p.length:Int) false) v:=by
      refine vc ?_;simp only[aK.j2,w1];exact vn (by simp) (vn (by simp) hv)
     simp only[aK.j1,e1,w1,List.length_map,jv,yw,D5,ay,if_neg h1,Jd];clear w1 e1;refine vp trivial (vp (by omega) (vp (by omega) (vp (by omega) (vp (by omega) ?_))));by_cases h2:l=fin2 b
     ·exact vp h2 hj2
     ·exact vn h2 hj2
   |some s=>
    obtain⟨q,c⟩:=s;simp only[CZ]at hs;simp only[agC];by_cases h1:l=dash b
    ·simp only[if_pos h1];refine⟨(fun v hv=>by cases hv),fun s' hs'=>⟨?_,fun v hv=>hgo v (vc ?_)⟩⟩
     ·cases hs';simp[CZ];omega
     ·cases hs';simp only[aK.j1,e1,w1,List.length_map,jv,yw,D5,ay,if_pos h1,Jd,spQ,spC];clear w1 e1;refine vp trivial (vp (by omega) (vp (by omega) (vp (by omega) (vp trivial (vp (by omega) ?_)))));have e5:q.map (List.map aT)++[c.map aT]=(q++[c]).map (List.map aT):=by simp
      rw[e5];exact hv
    ·simp only[if_neg h1];by_cases h2:l=fin2 b
     ·simp only[if_pos h2];refine⟨(fun v hv=>?_),fun s' hs'=>by cases hs'⟩;cases hv;refine hgo _ (vc ?_);simp only[aK.j1,e1,List.length_map,jv,yw,D5,ay,if_neg h1,if_pos h2,Jd,spQ,spC];clear w1 e1;refine vp trivial (vp (by omega) (vp (by omega) (vp (by omega) (vp (by omega) (vc ?_)))));simp only[aK.j2,List.length_map];refine vp trivial (vp (by omega) (vq (vs _) ?_));simp[Ld]
     ·simp only[if_neg h2];refine⟨(fun v hv=>by cases hv),fun s' hs'=>⟨?_,fun v hv=>hgo v (vc ?_)⟩⟩
      ·cases hs';simp[CZ];omega
      ·cases hs';simp only[aK.j1,e1,List.length_map,jv,yw,D5,ay,if_neg h1,if_neg h2,Jd,spQ,spC];refine vp trivial (vp (by omega) (vp (by omega) (vp (by omega) (vp (by omega) (vc ?_)))));simp only[aK.j2,e1,w1,List.length_map];clear w1 e1;refine vn (by simp) (vp trivial (vp (by omega) (vp (by omega) (vp (by omega) ?_))));have e5:c.map aT++[aT l]=(c++[l]).map aT:=by simp
       rw[e5];exact hv
  ·intro s hs;simp only[aK.l0,List.length_map];exact vn (by omega) (hbad s _)
theorem Qz(ls:List Str)(b:Str)(hb:b.length≤1000000000000)(hn:ls.length≤1000000000000):Ev (fun k=>rD.f k (ls.map aT) (aT b)) (Ld (spR b ls)):=by
 unfold rD.f;refine vb (aeE ls b hb hn) ?_;unfold spR
 cases e1:FH b with
 |false=>exact vb (EL [] (by simp[tl])) (vs _)
 |true=>
  rw[if_pos rfl]
  cases e:sp b ls none with
  |none=>exact vb (EL [] (by simp[tl])) (vs _)
  |some o=>
   have:=(aiZ b ls none o e).1;simp only at this;exact vb (EL o (by omega)) (vs _)
theorem Je(a b:Str):stringslite_HasPrefix.f (aT a) (aT b)=some (b.isPrefixOf a):=by
 unfold stringslite_HasPrefix.f;simp only[ay,jL,jv];by_cases h:(a.length:Int)≥(b.length:Int)
 ·rw[if_pos h,if_pos (by omega),if_pos (by omega)]
  congr 1
  rw[Bool.eq_iff_iff,beq_iff_eq,List.isPrefixOf_iff_prefix,List.prefix_iff_eq_take];simp;exact eq_comm
 ·rw[if_neg h]
  congr 1
  rw[eq_comm,Bool.eq_false_iff,ne_eq,List.isPrefixOf_iff_prefix];intro hp;have:=hp.length_le;omega
theorem Es(a b:Str):strings_HasPrefix.f (aT a) (aT b)=some (b.isPrefixOf a):=by
 unfold strings_HasPrefix.f;rw[Je];rfl
def sp1(l:Str):Bool:=decide (l.head? =some 32)
def gr:Str→List Str→List Str
 |c,[]=>[c]
 |c,l:: r=>if sp1 l=true then gr (c++l) r else c:: gr l r
def fld(l:Str):Option (Str×Str):=(wU 58 l).map fun x=>(x.1,trim x.2)
def Jf:List Str→Option (List (Str×Str))
 |[]=>some []
 |l:: r=>match fld l with
  |none=>none
  |some f=>(Jf r).map (f:: ·)
def rF(ls:List Str):Option (List (Str×Str)):=match ls with
 |[]=>some []
 |l:: r=>if sp1 l=true then none else(match Jf (gr l r)with
  |none=>none
  |some fs=>if fvs fs=true then some fs else none)
def idx:List Str→Option (List Str×List Str)
 |[]=>none
 |l:: r=>if l=[]then some ([],r)else(idx r).map fun x=>(l:: x.1,x.2)
def QA(g:List Str→Option Pt):List (List Str)→Option (List Pt)
 |[]=>some []
 |l:: r=>match g l with
  |none=>none
  |some p=>(QA g r).map (p:: ·)
def Jg(m:Bool):Nat→List Str→Option Pt
 |0,_=>none
 |d+1,ls=>match idx ls with
  |none=>none
  |some (a,r)=>match rF a with
   |none=>none
   |some f=>if(bF f).2=true then(match spR (bF f).1 r with
    |none=>none
    |some qs=>if m=true∧4<qs.length then none else(QA (Jg m d) qs).map fun k=> .mk f [] k)else some (.mk f r [])
def pV(o:Option Pt):Option Pt:=match o with
 |none=>none
 |some p=>if(lines 3 p).isSome=true then some p else none
def pR(ls:List Str):Option Pt:=pV (Jg true 3 ls)
theorem av8:∀(xs:List Str) (c:Str) (r:List Str),(∀x∈xs,sp1 x=true)→gr c (xs++r)=gr (c++xs.flatten) r
 |[],c,r,_=>by simp
 |x:: xs,c,r,h=>by
  rw[List.cons_append,gr,if_pos (h x (by simp)),av8 xs (c++x) r fun y hy=>h y (by simp[hy])];simp
theorem acF:∀(n:Nat) (l:Str) (i:Nat),1≤i→(fl n l i).flatten=l
 |0,l,i,_=>by simp[fl]
 |n+1,l,i,hi=>by
  rw[fl];by_cases c:l.length>40
  ·rw[if_pos c];by_cases d:Ls l i<0
   ·rw[if_pos d];simp
   ·rw[if_neg d,List.flatten_cons,acF n _ 2 (by omega),List.take_append_drop]
  ·rw[if_neg c];simp
theorem ai1(l:Str):∀(n i:Nat) (b:Int),brk l n i b=b∨∃t:Nat,brk l n i b=(t:Int)∧wH l t=true
 |0,_,_=> .inl rfl
 |n+1,i,b=>by
  rw[brk];rcases ai1 l n (i+1) (uZ l i b)with h|h
  ·rw[h];unfold uZ;by_cases c:wH l i=true∧(b<0∨i≤40)
   ·rw[if_pos c];exact .inr ⟨i,rfl,c.1⟩
   ·rw[if_neg c];exact .inl rfl
  ·exact .inr h
theorem Xb:∀(n:Nat) (l:Str) (i:Nat),1≤i→∃x r,fl n l i=x:: r∧x.head? =l.head?∧∀y∈r,sp1 y=true
 |0,l,i,_=>⟨l,[],rfl,rfl,fun _ h=>by cases h⟩
 |n+1,l,i,hi=>by
  rw[fl];by_cases c:l.length>40
  ·rw[if_pos c];by_cases d:Ls l i<0
   ·rw[if_pos d];exact⟨l,[],rfl,rfl,fun _ h=>by cases h⟩
   ·rw[if_neg d];obtain⟨x,r,e,h1,h2⟩:=Xb n (l.drop (Ls l i).toNat) 2 (by omega);rw[e];have hr:=KC l i;rcases ai1 l (l.length-1-i) i (-1)with e0|⟨t,e0,ht⟩
    ·exact absurd e0 (by unfold Ls at d;omega)
    have e':Ls l i=(t:Int):=e0;rw[e']at hr h1⊢;have hlt:t<l.length:=by omega
    unfold wH at ht;rw[Bool.and_eq_true,decide_eq_true_eq,azR l t hlt]at ht;have h32:l[t]=32:=UInt8.toNat_inj.mp (by have:=ht.1;simpa using (by omega:(l[t]).toNat=32));refine⟨_,_,rfl,?_,?_⟩
    ·rw[List.head?_take,if_neg (by omega)]
    ·intro y hy;rcases List.mem_cons.mp hy with rfl|hy
     ·unfold sp1;rw[h1,List.head?_drop,show((t:Int)).toNat=t by omega,List.getElem?_eq_getElem hlt,h32];rfl
     ·exact h2 y hy
  ·rw[if_neg c];exact⟨l,[],rfl,rfl,fun _ h=>by cases h⟩
theorem apt{f:Str×Str}(h:fv f=true):fld (Df f)=some f:=by
 obtain⟨a,v⟩:=f;unfold fv at h;simp only[Bool.and_eq_true,decide_eq_true_iff]at h;have ha:=aen h.1
 have h58:∀c∈a,c≠58:=by
  intro c hc e;have:=ha c hc;rw[e]at this;exact absurd this (by decide)
 unfold fld Df;rw[List.append_assoc,List.singleton_append,ajR _ _ h58,Option.map_some];by_cases c:v=[]
 ·simp only[c,if_pos];rw[ajQ [] (by simp)]
 ·simp only[if_neg c];rw[U0,h.2.2.2]
theorem Va{f:Str×Str}(h:fv f=true):∃c,(Df f).head? =some c∧NK c=true:=by
 obtain⟨a,v⟩:=f;unfold fv at h;rw[Bool.and_eq_true]at h
 cases a with
 |nil=>exact absurd h.1 (by simp[Kv])
 |cons c r=>
  have h1:=h.1;unfold Kv at h1;simp only[Bool.and_eq_true]at h1;exact⟨c,rfl,h1.1.2⟩
theorem apu{c:UInt8}(h:NK c=true):c≠32:=by
 intro e;rw[e]at h;exact absurd h (by decide)
theorem aeF:∀(fs:List (Str×Str)),fs.all fv=true→∀c,gr c (folds fs)=c:: fs.map Df
 |[],_,c=>rfl
 |f:: fs,h,c=>by
  rw[List.all_cons,Bool.and_eq_true]at h;obtain⟨x,r,e,h1,h2⟩:=Xb (Df f).length (Df f) (f.1.length+3) (by omega);obtain⟨c0,h3,h4⟩:=Va h.1;have hb:=acF (Df f).length (Df f) (f.1.length+3) (by omega)
  have hx:¬sp1 x=true:=by
   unfold sp1;rw[h1,h3,decide_eq_true_eq];intro e;cases e;exact apu h4 rfl
  unfold folds;rw[List.flatMap_cons];unfold CY;rw[e]at hb⊢;rw[List.cons_append,gr,if_neg hx,av8 r x _ h2];rw[List.flatten_cons]at hb;rw[hb,List.map_cons];exact congrArg (c:: ·) (aeF fs h.2 (Df f))
theorem aaR:∀(fs:List (Str×Str)),fs.all fv=true→Jf (fs.map Df)=some fs
 |[],_=>rfl
 |f:: fs,h=>by
  rw[List.all_cons,Bool.and_eq_true]at h;rw[List.map_cons,Jf,apt h.1,aaR fs h.2];rfl
theorem aeG{fs:List (Str×Str)}(h:fvs fs=true):rF (folds fs)=some fs:=by
 have hv:=h;unfold fvs at hv;rw[Bool.and_eq_true]at hv
 cases fs with
 |nil=>rfl
 |cons f fs=>
  have hg:=aeF (f:: fs) hv.2;have hv2:=hv.2;rw[List.all_cons,Bool.and_eq_true]at hv2;obtain⟨x,r,e,h1,h2⟩:=Xb (Df f).length (Df f) (f.1.length+3) (by omega);obtain⟨c0,h3,h4⟩:=Va hv2.1
  have hx:¬sp1 x=true:=by
   unfold sp1;rw[h1,h3,decide_eq_true_eq];intro e;cases e;exact apu h4 rfl
  have e2:folds (f:: fs)=x:: (r++folds fs):=by
   unfold folds;rw[List.flatMap_cons];unfold CY;rw[e];rfl
  have h5:=hg [];rw[e2,gr,if_neg hx]at h5;have h6:=(List.cons.inj h5).2;rw[e2];unfold rF;simp only;rw[if_neg hx,h6,aaR _ hv.2];simp only;rw[if_pos h]
theorem apv{fs:List (Str×Str)}(h:fs.all fv=true):∀x∈folds fs,x≠[]:=by
 intro x hx;unfold folds at hx;rw[List.mem_flatMap]at hx;obtain⟨f,hf,hx⟩:=hx;have hv:=List.all_eq_true.mp h f hf;obtain⟨y,r,e,h1,h2⟩:=Xb (Df f).length (Df f) (f.1.length+3) (by omega);obtain⟨c0,h3,h4⟩:=Va hv;unfold CY at hx;rw[e]at hx;rcases List.mem_cons.mp hx with rfl|hx
 ·intro e0;rw[e0]at h1;rw[h3]at h1;cases h1
 ·have:=h2 x hx;intro e0;rw[e0]at this;exact absurd this (by decide)
theorem aeH:∀(a b:List Str),(∀x∈a,x≠[])→idx (a++[]:: b)=some (a,b)
 |[],b,_=>by rw[List.nil_append,idx,if_pos rfl]
 |x:: a,b,h=>by
  rw[List.cons_append,idx,if_neg (h x (by simp)),aeH a b fun y hy=>h y (by simp[hy])];rfl
theorem aeI{g:Pt→Option (List Str)}{q:List Str→Option Pt}:∀{k:List Pt} {ls:List (List Str)},kl g k=some ls→(∀p∈k,∀a,g p=some a→q a=some p)→QA q ls=some k
 |[],ls,h,_=>by rw[kl]at h;cases h;rfl
 |p:: r,ls,h,hq=>by
  rw[kl]at h
  cases e:g p with
  |none=>rw[e]at h;cases h
  |some a=>
   rw[e]at h
   cases e2:kl g r with
   |none=>rw[e2]at h;cases h
   |some l=>
    rw[e2]at h;cases h;rw[QA,hq p (by simp) a e,aeI e2 fun x hx=>hq x (by simp[hx])];rfl
theorem aaS:∀(d:Nat) (p:Pt) (ls:List Str),lines d p=some ls→Jg true d ls=some p
 |0,p,ls,h=>by rw[lines]at h;cases h
 |d+1, .mk f b k,ls,h=>by
  rw[lines]at h;by_cases c:fvs f=true
  ·rw[if_pos c]at h;have cv:=c;unfold fvs at cv;rw[Bool.and_eq_true]at cv
   have hi:∀r,idx (head f++r)=some (folds f,r):=by
    intro r;unfold head;rw[List.append_assoc];exact aeH _ _ (apv cv.2)
   by_cases c1:(bF f).2=true
   ·rw[if_pos c1]at h;by_cases c2:b=[]∧1≤k.length∧k.length≤4
    ·rw[if_pos c2]at h
     cases e:kl (lines d) k with
     |none=>rw[e]at h;cases h
     |some l=>
      rw[e]at h;simp only at h
      cases e2:jR (bF f).1 l with
      |none=>rw[e2]at h;cases h
      |some s=>
       rw[e2]at h;cases h;obtain⟨h1,h2,h3,h4⟩:=acE e2;have hs:=apr (b:=(bF f).1) [] h1 h2 h3
       have hl:l.length=k.length:=by
        have key:∀{k:List Pt} {l:List (List Str)},kl (lines d) k=some l→l.length=k.length:=by
         intro k
         induction k with
         |nil=>intro l h;rw[kl]at h;cases h;rfl
         |cons p r ih=>
          intro l h;rw[kl]at h
          cases e:lines d p with
          |none=>rw[e]at h;cases h
          |some a=>
           rw[e]at h
           cases e3:kl (lines d) r with
           |none=>rw[e3]at h;cases h
           |some l2=>rw[e3]at h;cases h;simp[ih e3]
        exact key e
       rw[Jg];simp only[hi,aeG c];rw[if_pos c1,h4,hs];simp only;rw[if_neg (by omega),aeI e fun q _ a ha=>aaS d q a ha,c2.1];rfl
    ·rw[if_neg c2]at h;cases h
   ·rw[if_neg c1]at h;by_cases c2:k=[]∧tbs b=true
    ·rw[if_pos c2]at h;cases h;rw[Jg];simp only[hi,aeG c];rw[if_neg c1,c2.1]
    ·rw[if_neg c2]at h;cases h
  ·rw[if_neg c]at h;cases h
theorem aeJ{p:Pt}{ls:List Str}(h:lines 3 p=some ls):pR ls=some p:=by
 unfold pR;rw[aaS 3 p ls h];unfold pV;simp only;rw[if_pos (by rw[h];rfl)]
theorem apw{ls:List Str}{p:Pt}(h:pR ls=some p):Jg true 3 ls=some p∧(lines 3 p).isSome=true:=by
 unfold pR pV at h
 cases e:Jg true 3 ls with
 |none=>rw[e]at h;cases h
 |some q=>
  rw[e]at h;simp only at h;by_cases c:(lines 3 q).isSome=true
  ·rw[if_pos c]at h;cases h;exact⟨rfl,c⟩
  ·rw[if_neg c]at h;cases h
theorem ai2{g:List Str→Option Pt}:∀{qs:List (List Str)} {k:List Pt},QA g qs=some k→k.length=qs.length∧∀p∈k,∃q∈qs,g q=some p
 |[],k,h=>by rw[QA]at h;cases h;exact⟨rfl,fun _ h=>by cases h⟩
 |l:: r,k,h=>by
  rw[QA]at h
  cases e:g l with
  |none=>rw[e]at h;cases h
  |some p=>
   rw[e]at h
   cases e2:QA g r with
   |none=>rw[e2]at h;cases h
   |some k2=>
    rw[e2]at h;cases h;obtain⟨h1,h2⟩:=ai2 e2;refine⟨by simp[h1],fun q hq=>?_⟩;rcases List.mem_cons.mp hq with rfl|hq
    ·exact⟨l,by simp,e⟩
    ·obtain⟨x,hx,hy⟩:=h2 q hq;exact⟨x,by simp[hx],hy⟩
theorem acG{g g':List Str→Option Pt}:∀{qs:List (List Str)} {k:List Pt},QA g qs=some k→(∀q p,g q=some p→p∈k→g' q=some p)→QA g' qs=some k
 |[],k,h,_=>h
 |l:: r,k,h,hg=>by
  rw[QA]at h⊢
  cases e:g l with
  |none=>rw[e]at h;cases h
  |some p=>
   rw[e]at h
   cases e2:QA g r with
   |none=>rw[e2]at h;cases h
   |some k2=>
    rw[e2]at h;cases h;rw[hg l p e (by simp),acG e2 fun q p hq hp=>hg q p hq (by simp[hp])];rfl
theorem aeK:∀(d:Nat) (ls:List Str) (p:Pt),Jg true d ls=some p→Jg false d ls=some p
 |0,ls,p,h=>by rw[Jg]at h;cases h
 |d+1,ls,p,h=>by
  rw[Jg]at h⊢
  cases e:idx ls with
  |none=>rw[e]at h;cases h
  |some x=>
   obtain⟨a,r⟩:=x;rw[e]at h;simp only at h⊢
   cases e2:rF a with
   |none=>rw[e2]at h;cases h
   |some f=>
    rw[e2]at h;simp only at h⊢;by_cases c:(bF f).2=true
    ·rw[if_pos c]at h⊢
     cases e3:spR (bF f).1 r with
     |none=>rw[e3]at h;cases h
     |some qs=>
      rw[e3]at h;simp only at h⊢;by_cases c2:True∧4<qs.length
      ·rw[if_pos (by simpa using c2)]at h;cases h
      ·rw[if_neg (by simpa using c2)]at h;rw[if_neg (by simp)]
       cases e4:QA (Jg true d) qs with
       |none=>rw[e4]at h;cases h
       |some k=>rw[e4]at h;rw[acG e4 fun q p hq _=>aeK d q p hq];exact h
    ·rw[if_neg c]at h⊢;exact h
theorem aeL:∀(d:Nat) (ls:List Str) (p:Pt),Jg false d ls=some p→(lines d p).isSome=true→Jg true d ls=some p
 |0,ls,p,h,_=>by rw[Jg]at h;cases h
 |d+1,ls,p,h,hv=>by
  rw[Jg]at h⊢
  cases e:idx ls with
  |none=>rw[e]at h;cases h
  |some x=>
   obtain⟨a,r⟩:=x;rw[e]at h;simp only at h⊢
   cases e2:rF a with
   |none=>rw[e2]at h;cases h
   |some f=>
    rw[e2]at h;simp only at h⊢;by_cases c:(bF f).2=true
    ·rw[if_pos c]at h⊢
     cases e3:spR (bF f).1 r with
     |none=>rw[e3]at h;cases h
     |some qs=>
      rw[e3]at h;simp only at h⊢;rw[if_neg (by simp)]at h
      cases e4:QA (Jg false d) qs with
      |none=>rw[e4]at h;cases h
      |some k=>
       rw[e4]at h;cases h;have hk:=agB hv;have hl:=(ai2 e4).1;rw[if_neg (by simp;omega),acG e4 fun q p hq hp=>aeL d q p hq (hk.2 p hp)];rfl
    ·rw[if_neg c]at h⊢;exact h
theorem ase(ls:List Str):pV (Jg false 3 ls)=pR ls:=by
 unfold pR
 cases e:Jg true 3 ls with
 |some p=>rw[aeK 3 ls p e]
 |none=>
  cases e2:Jg false 3 ls with
  |none=>rfl
  |some p=>
   unfold pV;simp only;by_cases c:(lines 3 p).isSome=true
   ·rw[aeL 3 ls p e2 c]at e;cases e
   ·rw[if_neg c]
theorem acH:∀(r:List Str) (c:Str),o8 (gr c r)+(gr c r).length≤c.length+o8 r+r.length+1
 |[],c=>by simp[gr,o8]
 |l:: r,c=>by
  rw[gr];split
  ·have:=acH r (c++l);rw[List.length_append]at this;rw[o8,List.length_cons];omega
  ·have:=acH r l;rw[o8,List.length_cons,o8,List.length_cons];omega
theorem aaT:∀{ls:List Str} {fs:List (Str×Str)},Jf ls=some fs→fs.length+C_ fs≤o8 ls+ls.length
 |[],fs,h=>by rw[Jf]at h;cases h;simp[C_,o8]
 |l:: r,fs,h=>by
  rw[Jf]at h
  cases e:fld l with
  |none=>rw[e]at h;cases h
  |some f=>
   rw[e]at h
   cases e2:Jf r with
   |none=>rw[e2]at h;cases h
   |some g=>
    rw[e2]at h;cases h;have h1:=aaT e2;unfold fld at e
    cases e3:wU 58 l with
    |none=>rw[e3]at e;cases e
    |some x=>
     rw[e3]at e;cases e;obtain⟨x,t⟩:=x;have h2:=Tt e3;have h3:=CX t;rw[C_,o8,List.length_cons,List.length_cons];simp only;omega
theorem acI{ls:List Str}{fs:List (Str×Str)}(h:rF ls=some fs):fs.length+C_ fs≤o8 ls+ls.length∧fvs fs=true:=by
 unfold rF at h
 cases ls with
 |nil=>cases h;exact⟨by simp[C_],rfl⟩
 |cons l r=>
  simp only at h;split at h
  ·cases h
  ·cases e:Jf (gr l r)with
   |none=>rw[e]at h;cases h
   |some g=>
    rw[e]at h;simp only at h;by_cases c:fvs g=true
    ·rw[if_pos c]at h;cases h;have h1:=aaT e;have h2:=acH r l;rw[o8,List.length_cons];exact⟨by omega,c⟩
    ·rw[if_neg c]at h;cases h
theorem idx_eq:∀{ls a r:List Str},idx ls=some (a,r)→ls=a++[]:: r∧∀x∈a,x≠[]
 |[],a,r,h=>by rw[idx]at h;cases h
 |l:: ls,a,r,h=>by
  rw[idx]at h;by_cases c:l=[]
  ·rw[if_pos c]at h;cases h;exact⟨by rw[c];rfl,fun _ h=>by cases h⟩
  ·rw[if_neg c]at h
   cases e:idx ls with
   |none=>rw[e]at h;cases h
   |some x=>
    obtain⟨y,z⟩:=x;rw[e]at h;cases h;obtain⟨h1,h2⟩:=idx_eq e;refine⟨by rw[h1];rfl,fun x hx=>?_⟩;rcases List.mem_cons.mp hx with rfl|hx
    ·exact c
    ·exact h2 x hx
def VN:List (List Str)→Nat
 |[]=>0
 |c:: r=>o8 c+c.length+1+VN r
theorem Zq(a b:List (List Str)):VN (a++b)=VN a+VN b:=by
 induction a with
 |nil=>simp[VN]
 |cons c a ih=>simp only[List.cons_append,VN,ih];omega
theorem agD(b:Str)(r:List Str):∀(s:Option (List (List Str)×List Str)) (o:List (List Str)),sp b r s=some o→VN o≤o8 r+r.length+(match s with
  |none=>0
  |some (q,c)=>VN q+o8 c+c.length+1):=by
 induction r with
 |nil=>intro s o h;cases h
 |cons l r ih=>
  intro s o h;simp only[List.length_cons,o8]
  cases s with
  |none=>
   simp only[sp]at h⊢;by_cases h1:l=dash b
   ·rw[if_pos h1]at h;have h2:=ih _ _ h;simp only[VN,o8,List.length_nil]at h2;omega
   ·rw[if_neg h1]at h;have h2:=ih _ _ h;simp only at h2;omega
  |some s=>
   obtain⟨q,c⟩:=s;simp only[sp]at h⊢;by_cases h1:l=dash b
   ·rw[if_pos h1]at h;have h2:=ih _ _ h;simp only[Zq,VN,o8,List.length_nil]at h2;omega
   ·rw[if_neg h1]at h;by_cases h4:l=fin2 b
    ·rw[if_pos h4]at h;cases h;simp only[Zq,VN];omega
    ·rw[if_neg h4]at h;have h2:=ih _ _ h;simp only[nV,o8,List.length_append,List.length_cons,List.length_nil]at h2;omega
theorem aeM{g:List Str→Option Pt}(hg:∀q p,g q=some p→OD p≤o8 q+q.length):∀{qs:List (List Str)} {k:List Pt},QA g qs=some k→k.length+GH k≤VN qs
 |[],k,h=>by rw[QA]at h;cases h;simp[GH]
 |l:: r,k,h=>by
  rw[QA]at h
  cases e:g l with
  |none=>rw[e]at h;cases h
  |some p=>
   rw[e]at h
   cases e2:QA g r with
   |none=>rw[e2]at h;cases h
   |some k2=>
    rw[e2]at h;cases h;have h1:=aeM hg e2;have h2:=hg l p e;rw[GH,VN,List.length_cons];omega
theorem TS(m:Bool):∀(d:Nat) (ls:List Str) (p:Pt),Jg m d ls=some p→OD p≤o8 ls+ls.length
 |0,ls,p,h=>by rw[Jg]at h;cases h
 |d+1,ls,p,h=>by
  rw[Jg]at h
  cases e:idx ls with
  |none=>rw[e]at h;cases h
  |some x=>
   obtain⟨a,r⟩:=x;rw[e]at h;have hi:=(idx_eq e).1;simp only at h
   cases e2:rF a with
   |none=>rw[e2]at h;cases h
   |some f=>
    rw[e2]at h;have hf:=(acI e2).1;have hz:o8 ls+ls.length=o8 a+a.length+1+o8 r+r.length:=by rw[hi,nV,o8,List.length_append,List.length_cons];simp;omega
    simp only at h;by_cases c:(bF f).2=true
    ·rw[if_pos c]at h
     cases e3:spR (bF f).1 r with
     |none=>rw[e3]at h;cases h
     |some qs=>
      rw[e3]at h;simp only at h;have hs:=agD _ _ _ _ (Zp e3).2.1;simp only at hs;split at h
      ·cases h
      ·cases e4:QA (Jg m d) qs with
       |none=>rw[e4]at h;cases h
       |some k=>
        rw[e4]at h;cases h;have hk:=aeM (fun q p hq=>TS m d q p hq) e4;rw[OD,hz];simp only[o8,List.length_nil];omega
    ·rw[if_neg c]at h;cases h;rw[OD,hz];simp only[GH,List.length_nil];omega
theorem aeN:∀l:List Str,o8 l=l.flatten.length
 |[]=>rfl
 |c:: r=>by rw[o8,aeN r,List.flatten_cons,List.length_append]
theorem agE(f:Str×Str):o8 (CY f)+(CY f).length≤2*(f.1.length+f.2.length)+5:=by
 have h1:=agt (Df f).length (Df f) (f.1.length+3) (by omega);have h2:=acF (Df f).length (Df f) (f.1.length+3) (by omega)
 have h3:(Df f).length≤f.1.length+2+f.2.length:=by
  unfold Df;by_cases c:f.2=[]
  ·rw[if_pos c];simp;omega
  ·rw[if_neg c];simp;omega
 unfold CY;rw[aeN,h2];omega
theorem QB:∀fs:List (Str×Str),o8 (folds fs)+(folds fs).length≤2*C_ fs+5*fs.length
 |[]=>by simp[folds,o8]
 |f:: fs=>by
  have h1:=agE f;have h2:=QB fs;have e:folds (f:: fs)=CY f++folds fs:=by unfold folds;rw[List.flatMap_cons]
  rw[e,nV,List.length_append,C_,List.length_cons];omega
def cB:Nat→Nat
 |0=>0
 |d+1=>4*cB d+501
theorem ai3{g:Pt→Option (List Str)}{C:Nat}(hg:∀p a,g p=some a→o8 a+a.length≤5*OD p+C):∀{k:List Pt} {ls:List (List Str)},kl g k=some ls→ls.length=k.length∧VN ls≤5*GH k+(C+1)*k.length
 |[],ls,h=>by rw[kl]at h;cases h;simp[VN,GH]
 |p:: r,ls,h=>by
  rw[kl]at h
  cases e:g p with
  |none=>rw[e]at h;cases h
  |some a=>
   rw[e]at h
   cases e2:kl g r with
   |none=>rw[e2]at h;cases h
   |some l=>
    rw[e2]at h;cases h;obtain⟨h1,h2⟩:=ai3 hg e2;have h3:=hg p a e;rw[VN,GH,List.length_cons,List.length_cons,Nat.mul_succ];exact⟨by omega,by omega⟩
theorem acJ(b:Str):∀ps:List (List Str),o8 (jb b ps)+(jb b ps).length=VN ps+(b.length+2)*ps.length
 |[]=>by simp[jb,o8,VN]
 |c:: r=>by
  have:=acJ b r;have e:(dash b).length=b.length+2:=by unfold dash;simp
  rw[jb,o8,nV,List.length_cons,List.length_append,VN,List.length_cons,Nat.mul_succ,e];omega
theorem Zr:∀(d:Nat) (p:Pt) (ls:List Str),lines d p=some ls→o8 ls+ls.length≤5*OD p+cB d
 |0,p,ls,h=>by rw[lines]at h;cases h
 |d+1, .mk f b k,ls,h=>by
  rw[lines]at h;by_cases c:fvs f=true
  ·rw[if_pos c]at h;have hh:=QB f
   have h0:o8 (head f)+(head f).length≤2*C_ f+5*f.length+1:=by
    unfold head;rw[nV,List.length_append,List.length_singleton];simp only[o8,List.length_nil];omega
   rw[OD,cB];by_cases c1:(bF f).2=true
   ·rw[if_pos c1]at h;by_cases c2:b=[]∧1≤k.length∧k.length≤4
    ·rw[if_pos c2]at h
     cases e:kl (lines d) k with
     |none=>rw[e]at h;cases h
     |some l=>
      rw[e]at h;simp only at h;obtain⟨h1,h2⟩:=ai3 (fun p a ha=>Zr d p a ha) e
      cases e2:jR (bF f).1 l with
      |none=>rw[e2]at h;cases h
      |some s=>
       rw[e2]at h;cases h;obtain⟨j1,-,-,j4⟩:=acE e2;have hb:=GK j1;have hj:=acJ (bF f).1 l;have ef:(fin2 (bF f).1).length=(bF f).1.length+4:=by unfold fin2;simp
       have m1:((bF f).1.length+2)*l.length≤72*4:=Nat.mul_le_mul (by omega) (by omega);have m2:(cB d+1)*k.length≤(cB d+1)*4:=Nat.mul_le_mul_left _ c2.2.2;rw[nV,List.length_append,j4,nV,List.length_append,List.length_singleton];simp only[o8];omega
    ·rw[if_neg c2]at h;cases h
   ·rw[if_neg c1]at h;by_cases c2:k=[]∧tbs b=true
    ·rw[if_pos c2]at h;cases h;rw[nV,List.length_append];omega
    ·rw[if_neg c2]at h;cases h
  ·rw[if_neg c]at h;cases h
def Wu(o:Option (List (Str×Str))):List eG×Bool:=match o with
 |none=>([],false)
 |some fs=>(fs.map vW,true)
def Pq(o:Option (List (Str×Str)))(acc:List (Str×Str)):Option (List (Str×Str)):=match o with
 |none=>none
 |some fs=>if fvs (acc++fs)=true then some (acc++fs)else none
theorem apx{α:Type}(q:List α)(c x:α):(q++[c]).set q.length x=q++[x]:=by
 induction q with
 |nil=>rfl
 |cons a q ih=>rw[List.cons_append,List.length_cons,List.set_cons_succ,ih];rfl
theorem TT(gs:List Str)(hs:∀x∈gs,x.length≤1000000)(hn:gs.length≤1000000):∀(r p:List Str) (acc:List (Str×Str)),gs=p++r→acc.length≤p.length→small acc→Ev (fun k=>dK.l1 k (acc.map vW) (gs.map aT) (gs.length:Int) (p.length:Int)) (Wu (Pq (Jf r) acc)):=by
 intro r
 induction r with
 |nil=>
  intro p acc h hl hsm;have hz:gs.length=p.length:=by rw[h,List.append_nil]
  refine vc ?_;simp only[dK.l1,Jf,Pq,List.append_nil];refine vn (by omega) (vb (Fa acc hsm (by omega)) ?_)
  cases fvs acc with
  |true=>exact vp rfl (vs _)
  |false=>exact vn (by simp) (vs _)
 |cons c r ih=>
  intro p acc h hl hsm;have hz:=gZ h;have e1:=nX h;have hc:=hs c (by rw[h];simp);have aOq:=GZ 58 c (by omega);have w1:wrap64 ((p.length:Int)+1)=(p.length:Int)+1:=aQ (by omega) (by omega);refine vc ?_;simp only[dK.l1,List.length_map,e1,w1];clear w1;refine vp (by omega) (vp (by omega) (vp (by omega) (jD aOq ?_)));rw[Jf,fld]
  cases e2:wU 58 c with
  |none=>exact vn (by simp[Lp]) (vs _)
  |some x=>
   obtain⟨a,t⟩:=x;have hlen:=Tt e2;have ht:=TM t (by omega);have htl:=CX t;refine vp rfl (jD ht (vp (by omega) ?_))
   have hv:=ih (p++[c]) (acc++[(a,trim t)]) (by rw[h];simp) (by simp only[List.length_append,List.length_singleton];omega) (by
    intro y hy;rcases List.mem_append.mp hy with hy|hy
    ·exact hsm y hy
    ·rw[List.mem_singleton]at hy;rw[hy];exact⟨by simp only;omega,by simp only;omega⟩)
   rw[kS,List.map_append]at hv;refine vq hv ?_;simp only[Option.map_some]
   cases e3:Jf r with
   |none=>rfl
   |some fs=>
    unfold Pq;simp only[Option.map_some,List.append_assoc,List.singleton_append]
theorem ai4(l:Str):([32]:Str).isPrefixOf l=sp1 l:=by
 unfold sp1
 cases l with
 |nil=>rfl
 |cons c r=>
  by_cases h:c=32
  ·subst h;rfl
  ·have h2:((32:UInt8)==c)=false:=by simpa using fun e=>h e.symm
   have h3:decide ((c:: r).head? =some (32:UInt8))=false:=by simpa using h
   rw[h3,List.isPrefixOf,h2];rfl
theorem acK(ls:List Str)(hs:o8 ls+ls.length≤1000000):∀(r p done:List Str) (c:Str),ls=p++r→done.length+1≤p.length→c.length+o8 r≤1000000→(∀x∈done,x.length≤1000000)→
  Ev (fun k=>dK.l0 k ((done++[c]).map aT) (ls.map aT) (ls.length:Int) (p.length:Int)) (Wu (Pq (Jf (done++gr c r)) [])):=by
 intro r
 induction r with
 |nil=>
  intro p done c h hd hc hm;have hz:ls.length=p.length:=by rw[h,List.append_nil]
  refine vc ?_;simp only[dK.l0,gr,List.length_map];refine vn (by omega) ?_
  exact TT (done++[c]) (by
   intro x hx;rcases List.mem_append.mp hx with hx|hx
   ·exact hm x hx
   ·rw[List.mem_singleton]at hx;rw[hx];simp only[o8]at hc;omega) (by rw[List.length_append,List.length_singleton];omega) _ [] [] rfl (Nat.le_refl _) (fun _ h=>by cases h)
 |cons l r ih=>
  intro p done c h hd hc hm;have hz:=gZ h;have e1:=nX h;rw[o8]at hc;have w1:wrap64 ((p.length:Int)+1)=(p.length:Int)+1:=aQ (by omega) (by omega);have hl2:(done++[c]).length=done.length+1:=by simp
  have w2:wrap64 (((done.length+1:Nat):Int)-1)=(done.length:Int):=(aQ (by omega) (by omega)).trans (by omega);have e2:iw ByteArray.empty ((done++[c]).map aT) (done.length:Int)=aT c:=nX (p:=done) (r:=[]) rfl;have hp:=Es l [32];rw[ai4]at hp
  have e3:((done++[c]).map aT).set done.length (aT c++aT l)=(done++[c++l]).map aT:=by
   have:=apx (done.map aT) (aT c) (aT c++aT l);rw[List.length_map]at this;rw[List.map_append,List.map_singleton,this,List.map_append,List.map_singleton,kV]
  refine vc ?_;simp only[dK.l0,List.length_map,e1,w1,hl2,w2,e2,Int.toNat_natCast,e3];clear w1 w2;refine vp (by omega) (vp (by omega) (vp (by omega) (jD hp ?_)));rw[gr];by_cases c1:sp1 l=true
  ·rw[if_pos c1];refine vp c1 (vn (by omega) (vp (by omega) (vp (by omega) (vp (by rw[ay,ay];omega) ?_))));have hv:=ih (p++[l]) done (c++l) (by rw[h];simp) (by rw[List.length_append];omega) (by rw[List.length_append];omega) hm;rw[kS]at hv;exact hv
  ·rw[if_neg c1];refine vn c1 (vp (by omega) ?_)
   have hv:=ih (p++[l]) (done++[c]) l (by rw[h];simp) (by rw[List.length_append,List.length_append];simp;omega) (by omega) (by
    intro x hx;rcases List.mem_append.mp hx with hx|hx
    ·exact hm x hx
    ·rw[List.mem_singleton]at hx;rw[hx];omega)
   rw[kS,List.map_append (l₂:=[l]),List.map_singleton,List.append_assoc,List.singleton_append]at hv;exact hv
theorem QC(ls:List Str)(hs:o8 ls+ls.length≤1000000):Ev (fun k=>dK.f k (ls.map aT)) (Wu (rF ls)):=by
 unfold dK.f;rw[List.length_map]
 cases ls with
 |nil=>
  refine vc ?_;simp only[dK.l0];exact vn (by simp) (TT [] (fun _ h=>by cases h) (by simp) [] [] [] rfl (Nat.le_refl _) (fun _ h=>by cases h))
 |cons l r=>
  have hp:=Es l [32];rw[ai4]at hp;rw[o8,List.length_cons]at hs;have e1:iw ByteArray.empty ((l:: r).map aT) 0=aT l:=nX (p:=[]) (r:=r) rfl;have w1:wrap64 ((0:Int)+1)=((1:Nat):Int):=aQ (by omega) (by omega);have w2:wrap64 (((0:Nat):Int)-1)= -1:=aQ (by omega) (by omega);refine vc ?_;simp only[dK.l0,List.length_nil,e1,w1,w2];clear w1 w2;refine vp (by rw[List.length_cons];omega) (vp (by omega) (vp (by rw[List.length_map,List.length_cons];omega) (jD hp ?_)));unfold rF;simp only;by_cases c1:sp1 l=true
  ·rw[if_pos c1];exact vp c1 (vp (by omega) (vs _))
  ·rw[if_neg c1];refine vn c1 (vp (by simp) ?_);have hv:=acK (l:: r) (by rw[o8,List.length_cons];omega) r [l] [] l rfl (by simp) (by omega) (fun _ h=>by cases h);refine vq hv ?_;rw[List.nil_append]
   cases e:Jf (gr l r)with
   |none=>rfl
   |some fs=>simp only[Pq,List.nil_append]
def sg(acc:List (Str×Str)):List Str→Option (List (Str×Str))
 |[]=>some acc
 |g:: r=>match fld g with
  |none=>none
  |some f=>if fv f=true∧acc.length≠20 then sg (acc++[f]) r else none
theorem apy:∀(gs:List Str) (acc:List (Str×Str)),acc.all fv=true→acc.length≤20→sg acc gs=Pq (Jf gs) acc
 |[],acc,h,hl=>by
  rw[sg,Jf];simp only[Pq,List.append_nil];rw[if_pos (by unfold fvs;rw[h,decide_eq_true hl];rfl)]
 |g:: r,acc,h,hl=>by
  rw[sg,Jf]
  cases e:fld g with
  |none=>rfl
  |some f=>
   simp only;by_cases c:fv f=true∧acc.length≠20
   ·rw[if_pos c,apy r (acc++[f]) (by rw[List.all_append,h];simp[c.1]) (by rw[List.length_append,List.length_singleton];omega)]
    cases Jf r with
    |none=>rfl
    |some fs=>simp only[Pq,Option.map_some,List.append_assoc,List.singleton_append]
   ·rw[if_neg c]
    cases Jf r with
    |none=>rfl
    |some fs=>
     simp only[Pq,Option.map_some];rw[if_neg];intro hv;unfold fvs at hv;rw[Bool.and_eq_true,decide_eq_true_eq,List.length_append,List.length_cons,List.all_append,List.all_cons,Bool.and_eq_true,Bool.and_eq_true]at hv;exact c ⟨hv.2.2.1,by omega⟩
theorem ai5:∀(r:List Str) (c:Str),c≠[]→∃g q,gr c r=g:: q∧g.head? =c.head?
 |[],c,_=>⟨c,[],rfl,rfl⟩
 |l:: r,c,h=>by
  rw[gr];split
  ·obtain⟨g,q,e,h2⟩:=ai5 r (c++l) (by simp[h]);refine⟨g,q,e,h2.trans ?_⟩
   cases c with
   |nil=>exact absurd rfl h
   |cons=>rfl
  ·exact⟨c,_,rfl,rfl⟩
theorem aIw{l:Str}(r:List Str)(h:sp1 l=true):sg [] (gr l r)=none:=by
 unfold sp1 at h;rw[decide_eq_true_eq]at h;obtain⟨g,q,e,h2⟩:=ai5 r l (by intro e;rw[e]at h;cases h);rw[e,sg];rw[h]at h2
 cases g with
 |nil=>cases h2
 |cons c g=>
  have hc:c=32:=by simpa using h2
  subst hc;have hne:¬((32:UInt8)=58):=by decide
  unfold fld;rw[wU,if_neg hne]
  cases wU 58 g with
  |none=>rfl
  |some x=>
   simp only[Option.map_some];rw[if_neg];intro h3;have h4:=h3.1;unfold fv Kv at h4;simp only[Bool.and_eq_true]at h4;exact absurd h4.1.1.2 (by decide)
theorem Wv(g:Str)(hg:g.length≤1000000):∀(r p:Str),g=p++r→Ev (fun k=>gY.l0 k (aT g) (p.length:Int)) (match wU 58 r with
  |none=>((⟨#[]⟩:ByteArray),(⟨#[]⟩:ByteArray),false)
  |some x=>(aT (p++x.1),aT (trim x.2),fv (p++x.1,trim x.2))):=by
 intro r
 induction r with
 |nil=>
  intro p h;have hz:g.length=p.length:=by rw[h,List.append_nil]
  refine vc ?_;simp only[gY.l0,ay,wU];exact vn (by omega) (vs _)
 |cons c r ih=>
  intro p h;have hz:=gZ h;have e1:=ku h;have w1:wrap64 ((p.length:Int)+1)=((p.length+1:Nat):Int):=aQ (by omega) (by omega);refine vc ?_;simp only[gY.l0,ay,e1,w1,Int.toNat_natCast];clear w1;refine vp (by omega) (vp (by omega) ?_);rw[wU];by_cases hc:c=58
  ·rw[if_pos hc]
   have ex1:(aT g).extract (p.length+1) g.length=aT r:=by
    rw[jL,hz,h,show p.length+1=(p++[c]).length by simp,show p++c:: r=(p++[c])++r by simp,List.drop_left]
    congr 1
    rw[List.take_of_length_le];simp
   have ex2:(aT g).extract 0 p.length=aT p:=by
    rw[jL,h]
    congr 1
    simp
   simp only[ex1,ex2];have htl:=CX r;refine vp (by rw[hc];rfl) (vp (by omega) (vp (by omega) (vp (by omega) (vb (qR r (by omega)) (vb (xQ (p,trim r) (by simp only;omega) (by simp only;omega)) ?_)))));rw[List.append_nil];exact vs _
  ·rw[if_neg hc];have hv:=ih (p++[c]) (by rw[h];simp);rw[List.length_append,List.length_singleton]at hv;refine vn (by intro e;apply hc;exact(Aa c 58 (by decide)).mp e) (vq hv ?_)
   cases wU 58 r with
   |none=>rfl
   |some x=>simp only[Option.map_some,List.append_assoc,List.singleton_append]
theorem Z4(g:Str)(hg:g.length≤1000000):Ev (fun k=>gY.f k (aT g)) (match fld g with
  |none=>((⟨#[]⟩:ByteArray),(⟨#[]⟩:ByteArray),false)
  |some f=>(aT f.1,aT f.2,fv f)):=by
 unfold gY.f;refine vq (Wv g hg g [] rfl) ?_;unfold fld
 cases wU 58 g with
 |none=>rfl
 |some x=>rfl
theorem aaU(ls:List Str)(acc:List (Str×Str))(c:Str)(rest:List Str)(i:Int)(hc:c.length≤1000000)(ha:acc.length≤20)(h:∀f,fv f=true→acc.length≠20→Ev (fun k=>dP.l0 k (ls.map aT) ((acc++[f]).map vW) i) (Wu (sg (acc++[f]) rest))):
  Ev (fun k=>(gY.f k (aT c)).bind fun bt=>(if bt.2.2=true then(if(((acc.map vW).length:Nat):Int)=20 then(some ((([]:List (eG))),false))else(if(acc.map vW).length<4398046511104 then(dP.l0 k (ls.map aT) ((acc.map vW)++[(⟨bt.1,bt.2.1⟩:eG)]) i)else(none)))else(some ((([]:List (eG))),false)))) (Wu (sg acc (c:: rest))):=by
 refine vb (Z4 c hc) ?_;rw[sg]
 cases e:fld c with
 |none=>exact vn (by simp) (vs _)
 |some f=>
  simp only[List.length_map];by_cases h1:fv f=true
  ·refine vp h1 ?_;by_cases h2:acc.length=20
   ·rw[if_neg (by simp[h2])];exact vp (by omega) (vs _)
   ·rw[if_pos ⟨h1,h2⟩];refine vn (by omega) (vp (by omega) ?_);have hv:=h f h1 h2;rw[List.map_append,List.map_singleton]at hv;exact hv
  ·rw[if_neg (by simp[h1])];exact vn h1 (vs _)
theorem acL(ls:List Str)(hs:o8 ls+ls.length≤1000000):∀(r p:List Str) (c:Str) (acc:List (Str×Str)),ls=p++r→c.length+o8 r≤1000000→acc.length≤20→Ev (fun k=>dP.l1 k (ls.map aT) (acc.map vW) (p.length:Int) (aT c)) (Wu (sg acc (gr c r))):=by
 intro r
 induction r with
 |nil=>
  intro p c acc h hc ha;have hz:ls.length=p.length:=by rw[h,List.append_nil]
  simp only[o8]at hc;refine vc ?_;simp only[dP.l1,gr];refine vn (by rw[List.length_map];omega) (aaU ls acc c [] _ (by omega) ha fun f _ _=>?_);refine vc ?_;simp only[dP.l0,sg];exact vn (by rw[List.length_map];omega) (vs _)
 |cons l r ih=>
  intro p c acc h hc ha;have hz:=gZ h;have e1:=nX h;rw[o8]at hc;have w1:wrap64 ((p.length:Int)+1)=(p.length:Int)+1:=aQ (by omega) (by omega)
  have push:=aaU ls acc c (gr l r) (p.length:Int) (by omega) ha fun f _ h20=>(by
   refine vc ?_;have hv:=ih (p++[l]) l (acc++[f]) (by rw[h];simp) (by omega) (by rw[List.length_append,List.length_singleton];omega);rw[kS]at hv;simp only[dP.l0,e1,w1];exact vp (by rw[List.length_map];omega) (vp (by omega) hv))
  refine vc ?_;simp only[dP.l1,e1,w1,ay,kV];clear w1;refine vp (by rw[List.length_map];omega) (vp (by omega) ?_);rw[gr]
  cases l with
  |nil=>
   rw[if_neg (by decide)];exact vn (by simp) push
  |cons b l=>
   refine vp (by simp) (vp (by simp) ?_);have eb:bt (aT (b:: l)) 0=(b.toNat:Int):=ku (p:=[]) (r:=l) rfl;rw[eb];by_cases hb:b=32
   ·rw[if_pos (by rw[hb];rfl)];have hv:=ih (p++[b:: l]) (c++b:: l) acc (by rw[h];simp) (by rw[List.length_append];omega) ha;rw[kS]at hv;refine vp (by rw[hb];rfl) (vp ?_ hv);rw[List.length_cons]at hc⊢;omega
   ·rw[if_neg (by unfold sp1;simpa using hb)];exact vn (by intro e;exact hb ((Aa b 32 (by decide)).mp e)) push
theorem Bf(ls:List Str)(hs:o8 ls+ls.length≤1000000):Ev (fun k=>dP.f k (ls.map aT)) (Wu (rF ls)):=by
 unfold dP.f;refine vc ?_
 cases ls with
 |nil=>
  simp only[dP.l0];exact vn (by simp) (vs _)
 |cons l r=>
  have hs':=hs;rw[o8,List.length_cons]at hs;have e1:iw ByteArray.empty ((l:: r).map aT) 0=aT l:=nX (p:=[]) (r:=r) rfl;have w1:wrap64 ((0:Int)+1)=((1:Nat):Int):=aQ (by omega) (by omega);simp only[dP.l0,e1,w1];clear w1;refine vp (by rw[List.length_map,List.length_cons];omega) (vp (by omega) ?_);have hv:=acL (l:: r) hs' r [l] l [] rfl (by omega) (by simp);refine vq hv ?_;unfold rF;simp only;by_cases c1:sp1 l=true
  ·rw[if_pos c1,aIw r c1]
  ·rw[if_neg c1,apy _ [] rfl (by simp)]
   cases Jf (gr l r)with
   |none=>rfl
   |some fs=>simp only[Pq,List.nil_append]
def G_(o:Option Pt):List eG×List ByteArray×List kE×Bool:=match o with
 |none=>([],[],[],false)
 |some p=>((e32 p).f0,(e32 p).f1,(e32 p).f2,true)
theorem Xc(f:List (Str×Str))(b:List Str)(k:List Pt):G_ (some (.mk f b k))=(f.map vW,b.map aT,k.map e32,true):=by
 unfold G_;simp only[Gz]
def aaV(f:List (Str×Str))(kk:List Pt)(o:Option (List Pt)):List eG×List ByteArray×List kE×Bool:=match o with
 |none=>([],[],[],false)
 |some k=>(f.map vW,[],(kk++k).map e32,true)
theorem apz{f:List (Str×Str)}{n:Nat}(h:C_ f≤n)(hn:n≤1048576):small f:=by
 intro x hx;have:=aiK hx;exact⟨by omega,by omega⟩
theorem ai6{qs:List (List Str)}{q:List Str}(h:q∈qs):o8 q+q.length+1≤VN qs:=by
 induction qs with
 |nil=>cases h
 |cons a r ih=>
  rw[VN];rcases List.mem_cons.mp h with rfl|h
  ·omega
  ·have:=ih h;omega
theorem ai7(qs:List (List Str)):qs.length≤VN qs:=by
 induction qs with
 |nil=>simp
 |cons a r ih=>rw[VN,List.length_cons];omega
theorem aaW(ls:List Str)(hn:ls.length≤1000000000000000):Ev (fun k=>bg.f k (ls.map aT) (⟨#[]⟩:ByteArray)) (match idx ls with
  |none=>(-1:Int)
  |some x=>(x.1.length:Int)):=by
 unfold bg.f;rw[List.length_map]
 have key:∀(r p:List Str),ls=p++r→Ev (fun k=>bg.l0 k (ls.map aT) (⟨#[]⟩:ByteArray) (ls.length:Int) (p.length:Int)) (match idx r with
  |none=>(-1:Int)
  |some x=>((p.length+x.1.length:Nat):Int)):=by
  intro r
  induction r with
  |nil=>
   intro p h;have hz:ls.length=p.length:=by rw[h,List.append_nil]
   refine vc ?_;simp only[bg.l0,idx];exact vn (by omega) (vs _)
  |cons l r ih=>
   intro p h;have hz:=gZ h;have e1:=nX h;have w1:wrap64 ((p.length:Int)+1)=(p.length:Int)+1:=aQ (by omega) (by omega);have e2:(⟨#[]⟩:ByteArray).toList=([]:Str):=jv [];refine vc ?_;simp only[bg.l0,e1,w1,List.length_map,jv,e2];clear w1;rw[idx];refine vp (by omega) (vp (by omega) (vp (by omega) ?_));by_cases c:l=[]
   ·rw[if_pos c];exact vp c.symm (vq (vs _) (by simp))
   ·rw[if_neg c];have hv:=ih (p++[l]) (by rw[h];simp);rw[kS]at hv;refine vn (fun e=>c e.symm) (vq hv ?_)
    cases idx r with
    |none=>rfl
    |some x=>simp only[Option.map_some,List.length_append,List.length_cons,List.length_nil];omega
 refine vq (key ls [] rfl) ?_
 cases idx ls with
 |none=>rfl
 |some x=>simp
theorem TU:∀(d:Nat),d≤3→∀(ls:List Str),o8 ls+ls.length≤1000000→Ev (fun k=>bU.f k (ls.map aT) (d:Int)) (G_ (Jg false d ls)):=by
 intro d
 induction d with
 |zero=>
  intro _ ls hs;refine vc ?_;simp only[bU.f];refine vb (aaW ls (by omega)) ?_;rw[Jg]
  have key:Ev (fun k=>bU.j0 k (ls.map aT) ((0:Nat):Int) (match idx ls with
   |none=>(-1:Int)
   |some x=>(x.1.length:Int)) true) (G_ none):=by
   refine vc ?_;simp only[bU.j0];exact vp trivial (vs _)
  cases e:idx ls with
  |none=>rw[e]at key;exact vp (by simp) key
  |some x=>rw[e]at key;exact vn (by simp) key
 |succ d ih=>
  intro hd ls hs;refine vc ?_;simp only[bU.f];refine vb (aaW ls (by omega)) ?_;rw[Jg]
  cases e:idx ls with
  |none=>
   refine vp (by simp) (vc ?_);simp only[bU.j0];exact vp trivial (vs _)
  |some x=>
   obtain⟨a,r⟩:=x;have hi:=(idx_eq e).1;have hz:o8 ls+ls.length=o8 a+a.length+1+o8 r+r.length:=by rw[hi,nV,o8,List.length_append,List.length_cons];simp;omega
   have hlen:ls.length=a.length+1+r.length:=by rw[hi,List.length_append,List.length_cons];omega
   have et:(ls.map aT).take a.length=a.map aT:=by rw[←List.map_take,hi,List.take_left]
   have ed:(ls.map aT).drop (a.length+1)=r.map aT:=by
    rw[←List.map_drop,hi,show a.length+1=(a++[[]]).length by simp,show a++[]:: r=(a++[[]])++r by simp,List.drop_left]
   have hb0:(((d+1:Nat):Int)==0)=false:=by
    rw[beq_eq_false_iff_ne];omega
   have w1:wrap64 ((a.length:Int)+1)=((a.length+1:Nat):Int):=aQ (by omega) (by omega);refine vn (by simp) ?_;simp only[hb0];refine vc ?_;simp only[bU.j0,w1,Int.toNat_natCast,et,ed,List.length_map];clear w1;refine vn (by simp) (vp (by omega) (vp (by omega) (vb (QC a (by omega)) ?_)))
   cases e2:rF a with
   |none=>exact vn (by simp[Wu]) (vs _)
   |some f=>
    have hf:=(acI e2).1;refine vp rfl (vp (by omega) (vp (by omega) (vb (Dl f (apz (n:=1000000) (by omega) (by omega)) (by omega) [] []) ?_)));simp only;by_cases c:(bF f).2=true
    ·rw[if_pos c];refine vp c ?_;have hbl:=GK (TQ c);refine vb (Qy r (bF f).1 (by omega) (by omega)) ?_
     cases e3:spR (bF f).1 r with
     |none=>exact vn (by simp[Ld]) (vs _)
     |some qs=>
      have hq:=agD _ _ _ _ (Zp e3).2.1;simp only at hq;refine vp rfl ?_;simp only[Ld,List.length_map];rw[if_neg (by simp)]
      have key:∀(r2 p:List (List Str)) (kk:List Pt),qs=p++r2→kk.length≤p.length→Ev (fun k=>bU.l0 k ((d+1:Nat):Int) (qs.map (List.map aT)) (qs.length:Int) (p.length:Int) (f.map vW) (kk.map e32)) (aaV f kk (QA (Jg false d) r2)):=by
       have hql:=ai7 qs;intro r2
       induction r2 with
       |nil=>
        intro p kk h hk;have hz:qs.length=p.length:=by rw[h,List.append_nil]
        refine vc ?_;simp only[bU.l0,QA,aaV,List.append_nil];exact vn (by omega) (vs _)
       |cons q r2 ih2=>
        intro p kk h hk;have hz:=gZ h;have e1:=GI h;have hm:=ai6 (qs:=qs) (q:=q) (by rw[h];simp);have hc:=ih (by omega) q (by omega);have w1:wrap64 ((p.length:Int)+1)=(p.length:Int)+1:=aQ (by omega) (by omega);have w2:wrap64 (((d+1:Nat):Int)-1)=(d:Int):=(aQ (by omega) (by omega)).trans (by omega);refine vc ?_;simp only[bU.l0,e1,w1,w2,List.length_map];clear w1 w2;refine vp (by omega) (vp (by omega) (vp (by omega) (vb hc ?_)));rw[QA]
        cases e4:Jg false d q with
        |none=>exact vn (by simp[G_]) (vs _)
        |some pt=>
         have hv:=ih2 (p++[q]) (kk++[pt]) (by rw[h];simp) (by simp only[List.length_append,List.length_singleton];omega);rw[kS,List.map_append,List.map_singleton]at hv;simp only[G_,apl];refine vp trivial (vp (by omega) (vq hv ?_))
         cases QA (Jg false d) r2 with
         |none=>rfl
         |some k2=>simp only[aaV,Option.map_some,List.append_assoc,List.singleton_append]
      refine vq (key qs [] [] rfl (Nat.le_refl _)) ?_
      cases QA (Jg false d) qs with
      |none=>rfl
      |some k2=>rw[Option.map_some,Xc];rfl
    ·rw[if_neg c,Xc];refine vn c (jD (a:=r.map aT) ?_ (vs _));unfold kN.f;rw[if_pos (by rw[List.length_map];omega)]
theorem Wx:∀(d:Nat),d≤3→∀(ls:List Str),o8 ls+ls.length≤1000000→Ev (fun k=>aX.f k (ls.map aT) (d:Int)) (G_ (Jg true d ls)):=by
 intro d
 induction d with
 |zero=>
  intro _ ls hs;refine vc ?_;simp only[aX.f];rw[Jg]
  have aIx:∀(n:Nat) (a:List Str),a.length=n→n≤ls.length→ls.take n=a→o8 a+a.length≤1000000→Ev (fun k=>aX.j1 k (ls.map aT) ((0:Nat):Int) (n:Int)) (G_ none):=by
   intro n a h1 h2 h3 h4;have et:(ls.map aT).take n=a.map aT:=by rw[←List.map_take,h3]
   have j2:∀(x7:List eG),Ev (fun k=>aX.j2 k (ls.map aT) ((0:Nat):Int) (n:Int) x7 true) (G_ none):=by
    intro x7;refine vc ?_;simp only[aX.j2];exact vp trivial (vs _)
   refine vc ?_;simp only[aX.j1,Int.toNat_natCast,et,List.length_map];refine vp (by omega) (vp (by omega) (vb (Bf a h4) ?_));have hd:decide (((0:Nat):Int)<1)=true:=decide_eq_true (by omega);simp only[hd];by_cases c:(Wu (rF a)).2=true
   ·refine vp c ?_;by_cases c2:(n:Int)=(ls.length:Int)
    ·exact vp c2 (j2 _)
    ·exact vn c2 (j2 _)
   ·exact vn c (j2 _)
  have key:∀(r p:List Str),ls=p++r→Ev (fun k=>aX.l0 k (ls.map aT) ((0:Nat):Int) (p.length:Int)) (G_ none):=by
   intro r
   induction r with
   |nil=>
    intro p h;have hz:ls.length=p.length:=by rw[h,List.append_nil]
    refine vc ?_;simp only[aX.l0];rw[List.append_nil]at h;subst h;exact vn (by rw[List.length_map];omega) (aIx _ _ rfl (Nat.le_refl _) (List.take_length) hs)
   |cons l r ih2=>
    intro p h;have hz:=gZ h;have e1:=nX h;have w1:wrap64 ((p.length:Int)+1)=(p.length:Int)+1:=aQ (by omega) (by omega);refine vc ?_;simp only[aX.l0,e1,w1,jv];clear w1;refine vp (by rw[List.length_map];omega) (vp (by omega) ?_);by_cases c:l=[]
    ·refine vp c (aIx _ p rfl (by omega) (by rw[h,List.take_left]) ?_);have:o8 ls=o8 p+o8 (l:: r):=by rw[h,nV]
     omega
    ·have hv:=ih2 (p++[l]) (by rw[h];simp);rw[kS]at hv;exact vn c hv
  exact key ls [] rfl
 |succ d ih=>
  intro hd ls hs;refine vc ?_;simp only[aX.f]
  have apA:∀(n:Nat) (x7:List eG),Ev (fun k=>aX.j2 k (ls.map aT) ((d+1:Nat):Int) (n:Int) x7 true) (G_ none):=by
   intro n x7;refine vc ?_;simp only[aX.j2];exact vp trivial (vs _)
  have aOr:Ev (fun k=>aX.j1 k (ls.map aT) ((d+1:Nat):Int) (ls.length:Int)) (G_ none):=by
   refine vc ?_;have et:(ls.map aT).take ls.length=ls.map aT:=by rw[←List.map_take,List.take_length]
   simp only[aX.j1,Int.toNat_natCast,et,List.length_map];refine vp (by omega) (vp (by omega) (vb (Bf ls hs) ?_));by_cases c:(Wu (rF ls)).2=true
   ·exact vp c (vp trivial (apA _ _))
   ·exact vn c (apA _ _)
  have found:∀(a r:List Str),ls=a++[]:: r→Ev (fun k=>aX.j1 k (ls.map aT) ((d+1:Nat):Int) (a.length:Int)) (G_ (match rF a with
   |none=>none
   |some f=>if(bF f).2=true then(match spR (bF f).1 r with
    |none=>none
    |some qs=>if true=true∧4<qs.length then none else(QA (Jg true d) qs).map fun k=> .mk f [] k)else some (.mk f r []))):=by
   intro a r hi;have hz:o8 ls+ls.length=o8 a+a.length+1+o8 r+r.length:=by rw[hi,nV,o8,List.length_append,List.length_cons];simp;omega
   have hlen:ls.length=a.length+1+r.length:=by rw[hi,List.length_append,List.length_cons];omega
   have et:(ls.map aT).take a.length=a.map aT:=by rw[←List.map_take,hi,List.take_left]
   have ed:(ls.map aT).drop (a.length+1)=r.map aT:=by
    rw[←List.map_drop,hi,show a.length+1=(a++[[]]).length by simp,show a++[]:: r=(a++[[]])++r by simp,List.drop_left]
   have hb0:decide (((d+1:Nat):Int)<1)=false:=decide_eq_false (by omega);have w1:wrap64 ((a.length:Int)+1)=((a.length+1:Nat):Int):=aQ (by omega) (by omega);refine vc ?_;simp only[aX.j1,Int.toNat_natCast,et,List.length_map,hb0];refine vp (by omega) (vp (by omega) (vb (Bf a (by omega)) ?_))
   cases e2:rF a with
   |none=>exact vn (by simp[Wu]) (apA _ _)
   |some f=>
    have hf:=(acI e2).1;refine vp rfl (vn (by omega) (vc ?_));simp only[aX.j2,w1,Int.toNat_natCast,ed,List.length_map,Wu];clear w1;refine vn (by simp) (vb (Bd f (apz (n:=1000000) (by omega) (by omega)) (by omega)) ?_);simp only;by_cases c:(bF f).2=true
    ·rw[if_pos c];have hbl:=GK (TQ c);refine vp c (vp (by omega) (vp (by omega) (vb (Qz r (bF f).1 (by omega) (by omega)) ?_)))
     have j3t:∀(x12:List (List ByteArray)) (x:List eG),Ev (fun k=>aX.j3 k ((d+1:Nat):Int) x12 true x) (G_ none):=by
      intro x12 x;refine vc ?_;simp only[aX.j3];exact vp trivial (vs _)
     cases e3:spR (bF f).1 r with
     |none=>exact vn (by simp[Ld]) (j3t _ _)
     |some qs=>
      have hq:=agD _ _ _ _ (Zp e3).2.1;simp only at hq;refine vp rfl ?_;simp only[Ld,List.length_map];by_cases c4:4<qs.length
      ·rw[if_pos ⟨trivial,c4⟩];have:decide ((qs.length:Int)>4)=true:=decide_eq_true (by omega);simp only[this];exact j3t _ _
      ·rw[if_neg (by simp[c4])];have:decide ((qs.length:Int)>4)=false:=decide_eq_false (by omega);simp only[this]
       have key:∀(r2 p:List (List Str)) (kk:List Pt),qs=p++r2→kk.length≤p.length→Ev (fun k=>aX.l1 k ((d+1:Nat):Int) (qs.map (List.map aT)) (p.length:Int) (f.map vW) (kk.map e32)) (aaV f kk (QA (Jg true d) r2)):=by
        have hql:=ai7 qs;intro r2
        induction r2 with
        |nil=>
         intro p kk h hk;have hz:qs.length=p.length:=by rw[h,List.append_nil]
         refine vc ?_;simp only[aX.l1,QA,aaV,List.append_nil,List.length_map];exact vn (by omega) (vs _)
        |cons q r2 ih2=>
         intro p kk h hk;have hz:=gZ h;have e1:=GI h;have hm:=ai6 (qs:=qs) (q:=q) (by rw[h];simp);have hc:=ih (by omega) q (by omega);have w1:wrap64 ((p.length:Int)+1)=(p.length:Int)+1:=aQ (by omega) (by omega);have w2:wrap64 (((d+1:Nat):Int)-1)=(d:Int):=(aQ (by omega) (by omega)).trans (by omega);refine vc ?_;simp only[aX.l1,e1,w1,w2,List.length_map];clear w1 w2;refine vp (by omega) (vp (by omega) (vb hc ?_));rw[QA]
         cases e4:Jg true d q with
         |none=>exact vn (by simp[G_]) (vs _)
         |some pt=>
          have hv:=ih2 (p++[q]) (kk++[pt]) (by rw[h];simp) (by simp only[List.length_append,List.length_singleton];omega);rw[kS,List.map_append,List.map_singleton]at hv;simp only[G_,apl];refine vp trivial (vp (by omega) (vq hv ?_))
          cases QA (Jg true d) r2 with
          |none=>rfl
          |some k2=>simp only[aaV,Option.map_some,List.append_assoc,List.singleton_append]
       refine vc ?_;simp only[aX.j3];refine vn (by simp) (vq (key qs [] [] rfl (Nat.le_refl _)) ?_)
       cases QA (Jg true d) qs with
       |none=>rfl
       |some k2=>rw[Option.map_some,Xc];rfl
    ·rw[if_neg c,Xc];refine vn c (jD rfl (vp (by omega) (vp (by omega) (vp (by simp only[List.length_nil];omega) (vq (vs _) ?_)))));rw[List.nil_append];rfl
  have key:∀(r p:List Str),ls=p++r→Ev (fun k=>aX.l0 k (ls.map aT) ((d+1:Nat):Int) (p.length:Int)) (G_ (match (idx r).map fun x=>(p++x.1,x.2)with
   |none=>none
   |some (a,r)=>match rF a with
    |none=>none
    |some f=>if(bF f).2=true then(match spR (bF f).1 r with
     |none=>none
     |some qs=>if true=true∧4<qs.length then none else(QA (Jg true d) qs).map fun k=> .mk f [] k)else some (.mk f r []))):=by
   intro r
   induction r with
   |nil=>
    intro p h;have hz:ls.length=p.length:=by rw[h,List.append_nil]
    refine vc ?_;simp only[aX.l0,idx,Option.map_none];rw[←hz];exact vn (by rw[List.length_map];omega) aOr
   |cons l r ih2=>
    intro p h;have hz:=gZ h;have e1:=nX h;have w1:wrap64 ((p.length:Int)+1)=(p.length:Int)+1:=aQ (by omega) (by omega);refine vc ?_;simp only[aX.l0,e1,w1,jv];clear w1;refine vp (by rw[List.length_map];omega) (vp (by omega) ?_);rw[idx];by_cases c:l=[]
    ·rw[if_pos c];subst c;refine vp rfl (vq (found p r h) ?_);simp only[Option.map_some,List.append_nil]
    ·rw[if_neg c];have hv:=ih2 (p++[l]) (by rw[h];simp);rw[kS]at hv;refine vn c (vq hv ?_)
     cases idx r with
     |none=>rfl
     |some x=>simp only[Option.map_some,List.append_assoc,List.singleton_append]
  refine vq (key ls [] rfl) ?_;rw[Jg]
  cases idx ls with
  |none=>rfl
  |some x=>rfl
def ZF(o:Option Pt):Pt:=match o with
 |none=> .mk [] [] []
 |some p=>p
theorem asf{o:Option Pt}{n:Nat}(h:∀p,o=some p→OD p≤n):OD (ZF (pV o))≤n:=by
 cases o with
 |none=>exact Nat.zero_le _
 |some p=>
  unfold pV;simp only;split
  ·exact h p rfl
  ·exact Nat.zero_le _
theorem ai8{ls:List Str}:OD (ZF (pR ls))≤o8 ls+ls.length:=asf (fun p h=>TS true 3 ls p h)
theorem ai9(o:Option Pt):G_ o=((e32 (ZF o)).f0,(e32 (ZF o)).f1,(e32 (ZF o)).f2,o.isSome):=by
 cases o with
 |none=>rfl
 |some p=>rfl
theorem C9(ls:List Str)(hs:o8 ls+ls.length≤1000000):Ev (fun k=>lF.f k (ls.map aT)) (G_ (pR ls)):=by
 unfold lF.f;rw[←ase];refine vb (TU 3 (Nat.le_refl _) ls hs) ?_
 cases e:Jg false 3 ls with
 |none=>exact vn (by simp[G_]) (vs _)
 |some p=>
  have hz:=TS false 3 ls p e;refine vp rfl (vb (IJ p (by omega)) ?_);by_cases c:(lines 3 p).isSome=true
  ·have e1:pV (some p)=some p:=by unfold pV;simp only;rw[if_pos c]
   rw[e1];exact vp c (vs _)
  ·have e1:pV (some p)=none:=by unfold pV;simp only;rw[if_neg c]
   rw[e1];exact vn c (vs _)
theorem TV(ls:List Str)(hs:o8 ls+ls.length≤1000000):Ev (fun k=>sJ.f k (ls.map aT)) (G_ (pR ls)):=by
 have h1:Ev (fun k=>oI.f k (ls.map aT)) (G_ (pR ls)):=by
  unfold oI.f pR;refine vb (Wx 3 (Nat.le_refl _) ls hs) ?_
  cases e:Jg true 3 ls with
  |none=>exact vn (by simp[G_]) (vs _)
  |some p=>
   have hz:=TS true 3 ls p e;refine vp rfl (vb (IK p (by omega)) ?_);by_cases c:(lines 3 p).isSome=true
   ·have e1:pV (some p)=some p:=by unfold pV;simp only;rw[if_pos c]
    rw[e1];exact vp c (vs _)
   ·have e1:pV (some p)=none:=by unfold pV;simp only;rw[if_neg c]
    rw[e1];exact vn c (vs _)
 unfold sJ.f;have hz:=ai8 (ls:=ls);have h2:=Zn (ZF (pR ls)) (by omega);rw[ai9]at h1⊢;exact vb h1 (vb h2 (vs _))
theorem asg(ls:List Str)(t:Str)(i:Nat):o8 (ls.set i t)≤o8 ls+t.length:=by
 induction ls generalizing i with
 |nil=>simp[o8]
 |cons c r ih=>
  cases i with
  |zero=>rw[List.set_cons_zero,o8,o8];omega
  |succ i=>rw[List.set_cons_succ,o8,o8];have:=ih i;omega
theorem Vb(l:List Int)(h:∀x∈l,(Lit.int .u8 x).wf=true):∃ls:List Str,Ev (fun k=>iO.f k l) (ls.map aT)∧o8 ls+ls.length≤1000000:=by
 obtain⟨l2,ho,hl⟩:=ar6 l h;have e1:dB 2=175000:=by decide
 have e2:dQ 2=616:=by decide
 obtain⟨f,b,k,q,g1,h1,h2,h3⟩:=aj8 l2 hl 2 (by omega) 0 (by omega) (by omega);have hz:OD (.mk f b k)≤175000:=by rw[apm];omega
 have gf:=G9 (.mk f b k) (by omega);rw[Gz]at gf
 have j0:∀(x:List ByteArray) (p:Int),Ev (fun n=>iO.j0 n x false l2 p) x:=by
  intro x p;refine vc ?_;simp only[iO.j0];exact vn (by simp) (vs _)
 unfold iO.f
 cases e:lines 3 (.mk f b k)with
 |none=>
  have ef:fmt (.mk f b k)=([],false):=by unfold fmt;rw[e]
  rw[ef]at gf;exact⟨[],jD ho (vb g1 (vb gf (vn (by simp) (j0 [] q)))),by simp[o8]⟩
 |some ls=>
  have ef:fmt (.mk f b k)=(ls.map aT,true):=by unfold fmt;rw[e]
  rw[ef]at gf;have hb:=Zr 3 (.mk f b k) ls e;have ec:cB 3=10521:=by decide
  by_cases c:ls.length=0
  ·exact⟨ls,jD ho (vb g1 (vb gf (vn (by simp only[List.length_map];omega) (j0 _ q)))),by omega⟩
  ·obtain⟨i,hi,i0,i1⟩:=Ku l2 q 2 hl (by omega) (by omega) (by omega) (by omega);by_cases c2:(i==0)=true
   ·obtain⟨m,hm,m0,m1⟩:=Ku l2 (q+1) (ls.length:Int) hl (by omega) (by omega) (by omega) (by omega);obtain⟨t,ht,hv⟩:=agA l2 (q+1+1) ([(⟨#[]⟩:ByteArray),(⟨#[45,45,98,48]⟩:ByteArray),(⟨#[45,45,98,48,45,45]⟩:ByteArray),(⟨#[120]⟩:ByteArray),(⟨#[83,117,98,106,101,99,116,58,32,121]⟩:ByteArray),(⟨#[32,122]⟩:ByteArray)]:List ByteArray) 100 hl (by omega) (by omega) (by simp) (by simp) (by decide);have hss:=asg ls t m.toNat
    refine⟨ls.set m.toNat t,?_,by rw[List.length_set];omega⟩;refine jD ho (vb g1 (vb gf (vp (by simp only[List.length_map];omega) (vb hi ?_))));simp only[c2];refine vc ?_;simp only[iO.j0,List.length_map];refine vp trivial (vb hm (vb ht (vp m0 (vp m1 (vq (vs _) ?_)))));rw[List.map_set]
   ·have c3:(i==0)=false:=by simpa using c2
    refine⟨ls,jD ho (vb g1 (vb gf (vp (by simp only[List.length_map];omega) (vb hi ?_)))),by omega⟩;simp only[c3];exact j0 _ _
def aB:Nat→Nat
 |0=>0
 |d+1=>4*(aB d+1)+14000
theorem apB:∀{f:List (Str×Str)},f.all fv=true→C_ f≤180*f.length
 |[],_=>by simp[C_]
 |c:: r,h=>by
  rw[List.all_cons,Bool.and_eq_true]at h;have h1:=acD h.1;have h2:=apB h.2;rw[C_,List.length_cons];omega
theorem apC:∀{b:List Str},b.all nG=true→o8 b≤200*b.length
 |[],_=>by simp[o8]
 |c:: r,h=>by
  rw[List.all_cons,Bool.and_eq_true]at h;have h1:=Kw h.1;have h2:=apC h.2;rw[o8,List.length_cons];omega
theorem apD{g:Pt→Option (List Str)}{C:Nat}(hg:∀p a,g p=some a→o8 a+a.length≤C):∀{k:List Pt} {ls:List (List Str)},kl g k=some ls→ls.length=k.length∧VN ls≤(C+1)*k.length
 |[],ls,h=>by rw[kl]at h;cases h;simp[VN]
 |p:: r,ls,h=>by
  rw[kl]at h
  cases e:g p with
  |none=>rw[e]at h;cases h
  |some a=>
   rw[e]at h
   cases e2:kl g r with
   |none=>rw[e2]at h;cases h
   |some l=>
    rw[e2]at h;cases h;obtain⟨h1,h2⟩:=apD hg e2;have h3:=hg p a e;rw[VN,List.length_cons,List.length_cons,Nat.mul_succ];exact⟨by omega,by omega⟩
theorem aaX:∀(d:Nat) (p:Pt) (ls:List Str),lines d p=some ls→o8 ls+ls.length≤aB d
 |0,p,ls,h=>by rw[lines]at h;cases h
 |d+1, .mk f b k,ls,h=>by
  rw[lines]at h;by_cases c:fvs f=true
  ·rw[if_pos c]at h;have cv:=c;unfold fvs at cv;rw[Bool.and_eq_true,decide_eq_true_eq]at cv;have hh:=QB f;have hz:=apB cv.2
   have h0:o8 (head f)+(head f).length≤7301:=by
    unfold head;rw[nV,List.length_append,List.length_singleton];simp only[o8,List.length_nil];omega
   rw[aB];by_cases c1:(bF f).2=true
   ·rw[if_pos c1]at h;by_cases c2:b=[]∧1≤k.length∧k.length≤4
    ·rw[if_pos c2]at h
     cases e:kl (lines d) k with
     |none=>rw[e]at h;cases h
     |some l=>
      rw[e]at h;simp only at h;obtain⟨h1,h2⟩:=apD (fun p a ha=>aaX d p a ha) e
      cases e2:jR (bF f).1 l with
      |none=>rw[e2]at h;cases h
      |some s=>
       rw[e2]at h;cases h;obtain⟨j1,-,-,j4⟩:=acE e2;have hb:=GK j1;have hj:=acJ (bF f).1 l;have ef:(fin2 (bF f).1).length=(bF f).1.length+4:=by unfold fin2;simp
       have m1:((bF f).1.length+2)*l.length≤22*4:=Nat.mul_le_mul (by omega) (by omega);have m2:(aB d+1)*k.length≤(aB d+1)*4:=Nat.mul_le_mul_left _ c2.2.2;rw[nV,List.length_append,j4,nV,List.length_append,List.length_singleton];simp only[o8];omega
    ·rw[if_neg c2]at h;cases h
   ·rw[if_neg c1]at h;by_cases c2:k=[]∧tbs b=true
    ·rw[if_pos c2]at h;cases h;have ht:=c2.2;unfold tbs at ht;rw[Bool.and_eq_true,decide_eq_true_eq]at ht;have hs:=apC ht.2;rw[nV,List.length_append];omega
    ·rw[if_neg c2]at h;cases h
  ·rw[if_neg c]at h;cases h
theorem aaY{p:Pt}{ls:List Str}(h:lines 3 p=some ls):o8 ls+ls.length≤1000000:=by
 have h1:=aaX 3 p ls h;have e:aB 3=434084∨aB 3≤1000000:=Or.inr (by decide);rcases e with e|e<;>omega
theorem FnPartText:qc.Pure:=by
 intro l0 l1 _ _ h _ _ h';by_cases h0:(l0.length:Int)>1048576
 ·exact⟨0,Or.inl (Or.inl h0)⟩
 by_cases h1:(l1.length:Int)>1048576
 ·exact⟨0,Or.inl (Or.inr h1)⟩
 obtain⟨p,hd,hp⟩:=ai_ l0 h;obtain⟨text,ht,hs⟩:=Vb l1 h';have g1:=G8 p (by omega);have g2:=G9 p (by omega);have g3:=IJ p (by omega);have g4:=JK p p (by omega);rw[(apn _ _).mpr rfl]at g4;have g5:=C9 text hs;have g6:=TV text hs;have hz:=ai8 (ls:=text);have g7:=JK (ZF (pR text)) (ZF (pR text)) (by omega);rw[(apn _ _).mpr rfl]at g7;rw[ai9]at g5 g6
 have first:∃(ls:List Str) (b:Bool),fmt p=(ls.map aT,b)∧(lines 3 p).isSome=b∧Evp (fun k=>lD.f k (ls.map aT) (ls.map aT)=some true)∧(b=false∨b=true∧Evp (fun k=>lF.f k (ls.map aT)=some ((e32 p).f0,(e32 p).f1,(e32 p).f2,true))):=by
  cases e:lines 3 p with
  |none=>
   have hm:=Lc [] [] (by simp);rw[decide_eq_true rfl]at hm;exact⟨[],false,by unfold fmt;rw[e];rfl,rfl,yO hm,Or.inl rfl⟩
  |some ls=>
   have hf:=aaY e;have hm:=Lc ls ls (by omega);rw[decide_eq_true rfl]at hm;have hq:=C9 ls hf;rw[aeJ e]at hq;exact⟨ls,true,by unfold fmt;rw[e],rfl,yO hm,Or.inr ⟨rfl,yO hq⟩⟩
 have second:(pR text).isSome=false∨(pR text).isSome=true∧∃ls2:List ByteArray,Evp (fun k=>mY.f k (e32 (ZF (pR text))).f0 (e32 (ZF (pR text))).f1 (e32 (ZF (pR text))).f2=some (ls2,true))∧Evp (fun k=>lF.f k ls2=some ((e32 (ZF (pR text))).f0,(e32 (ZF (pR text))).f1,(e32 (ZF (pR text))).f2,true)):=by
  cases e:pR text with
  |none=>exact Or.inl rfl
  |some q=>
   rw[e]at hz;have hq:OD q≤1048576:=by have:OD (ZF (some q))≤o8 text+text.length:=hz;exact Nat.le_trans this (by omega)
   obtain⟨-,hv⟩:=apw e;obtain⟨ls2,e2⟩:=Option.isSome_iff_exists.mp hv;have k1:=G8 q hq;have k2:=C9 ls2 (aaY e2);rw[aeJ e2]at k2;have ef:fmt q=(ls2.map aT,true):=by unfold fmt;rw[e2]
   rw[ef]at k1;exact Or.inr ⟨rfl,ls2.map aT,yO k1,yO k2⟩
 obtain⟨ls,b,f1,f2,f3,f4⟩:=first;rw[f1]at g1 g2;rw[f2]at g3;have all1:=uo (yO hd) (uo (yO g1) (uo (yO g2) (uo f3 (uo (yO g3) (uo (yO g4) (uo (yO ht) (uo (yO g5) (uo (yO g6) (yO g7)))))))))
 have tail:∀(F:Nat→Prop),Evp F→∃k,F k∧qW.f k l0=some ((e32 p).f0,(e32 p).f1,(e32 p).f2)∧(b=false∨b=true∧lF.f k (ls.map aT)=some ((e32 p).f0,(e32 p).f1,(e32 p).f2,true))∧∃ls2,((pR text).isSome=false∨(pR text).isSome=true∧mY.f k (e32 (ZF (pR text))).f0 (e32 (ZF (pR text))).f1 (e32 (ZF (pR text))).f2=some (ls2,true)∧lF.f k ls2=some ((e32 (ZF (pR text))).f0,(e32 (ZF (pR text))).f1,(e32 (ZF (pR text))).f2,true)):=by
  intro F hF;rcases f4 with f4|⟨f4,f5⟩
  ·rcases second with s1|⟨s1,ls2,s2,s3⟩
   ·obtain⟨k,x1,x2⟩:=SX (uo hF (yO hd));exact⟨k,x1,x2,Or.inl f4,[],Or.inl s1⟩
   ·obtain⟨k,x1,x2,x3,x4⟩:=SX (uo hF (uo (yO hd) (uo s2 s3)));exact⟨k,x1,x2,Or.inl f4,ls2,Or.inr ⟨s1,x3,x4⟩⟩
  ·rcases second with s1|⟨s1,ls2,s2,s3⟩
   ·obtain⟨k,x1,x2,x3⟩:=SX (uo hF (uo (yO hd) f5));exact⟨k,x1,x2,Or.inr ⟨f4,x3⟩,[],Or.inl s1⟩
   ·obtain⟨k,x1,x2,x3,x4,x5⟩:=SX (uo hF (uo (yO hd) (uo f5 (uo s2 s3))));exact⟨k,x1,x2,Or.inr ⟨f4,x3⟩,ls2,Or.inr ⟨s1,x4,x5⟩⟩
 obtain⟨k,⟨a1,a2,a3,a4,a5,a6,a7,a8,a9,a10⟩,-,t1,ls2,t2⟩:=tail _ all1;refine⟨k,Or.inr ⟨h0,h1,e32 p,e32 (ZF (pR text)),ls.map aT,text.map aT,ls2,b,(pR text).isSome,a1,a2,a3,a4,a5,?_,a7,a8,a9,a10,t2⟩⟩;rcases t1 with t1|⟨t1,t3⟩
 ·exact Or.inl t1
 ·exact Or.inr ⟨t1,t3,a6⟩
end Go.Proofs.YtdkipechiaploaaGreatDoor.Pure
