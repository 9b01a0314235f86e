/- Short words of this session for the printed walks: a test taken apart, a call's row, a region in a told order; no condition beyond those of each statement. -/
import Derived.Test.YtdimppdlfgnhgaaGreatDoorVFnExactPartAtYt
import Derived.Test.YtdimppdlfgnhgaaGreatDoorVFnExactPartAtRt
import Derived.Test.YtdimppdlfgnhgaaGreatDoorVFnExactPartAtGuard
namespace Go.Proofs.YtdimppdlfgnhgaaGreatDoor.X
set_option linter.unusedVariables false
open Go.RowKit Go.Proofs.YtdimppdlfgnhgaaGreatDoorW.fD Go.Proofs.YtdimppdlfgnhgaaGreatDoorW.mZ Go.Proofs.YtdimppdlfgnhgaaGreatDoorW.qy
section
variable {α β:Type} {c:Prop} [Decidable c] {x y:Option α} {r:α}
theorem nn(h:(if c then x else none)=some r):c∧x=some r:=by
 by_cases hc:c
 ·rw[if_pos hc]at h;exact⟨hc,h⟩
 ·rw[if_neg hc]at h;cases h
theorem oW(h:(if c then x else none)=some r):decide c=true∧x=some r:=⟨decide_eq_true (nn h).1,(nn h).2⟩
theorem I4(h:(if c then x else none)=some r):(c=True)∧decide c=true∧x=some r:=⟨eq_true (nn h).1,decide_eq_true (nn h).1,(nn h).2⟩
theorem nl(h:(if c then x else none)=some r):ah c∧x=some r:=⟨⟨(nn h).1⟩,(nn h).2⟩
theorem sp(h:(if c then x else y)=some r):(c∧x=some r)∨(¬c∧y=some r):=by
 by_cases hc:c
 ·rw[if_pos hc]at h;exact .inl ⟨hc,h⟩
 ·rw[if_neg hc]at h;exact .inr ⟨hc,h⟩
theorem sd(h:(if c then x else y)=some r):(decide c=true∧x=some r)∨(decide c=false∧y=some r):=(sp h).imp (fun h=>⟨decide_eq_true h.1,h.2⟩) (fun h=>⟨decide_eq_false h.1,h.2⟩)
theorem sb{b:Bool}(h:(if b=true then x else y)=some r):(b=true∧x=some r)∨(b=false∧y=some r):=(sp h).imp id (fun h=>⟨Bool.eq_false_iff.mpr h.1,h.2⟩)
theorem sq{γ:Type} [BEq γ] [LawfulBEq γ]{a b:γ} [Decidable (a=b)](h:(if a=b then x else y)=some r):((a==b)=true∧(a !=b)=false∧x=some r)∨(a≠b∧(a==b)=false∧(a !=b)=true∧y=some r):=
 (sp h).imp (fun h=>⟨beq_iff_eq.mpr h.1,bne_eq_false_iff_eq.mpr h.1,h.2⟩) (fun h=>⟨h.1,beq_eq_false_iff_ne.mpr h.1,bne_iff_ne.mpr h.1,h.2⟩)
theorem nq{γ:Type} [BEq γ] [LawfulBEq γ]{a b:γ} [Decidable (a=b)](h:(if a=b then x else none)=some r):(a==b)=true∧(a !=b)=false∧x=some r:=⟨beq_iff_eq.mpr (nn h).1,bne_eq_false_iff_eq.mpr (nn h).1,(nn h).2⟩
theorem bd{z:Option β}{f:β→Option α}(h:z.bind f=some r):∃a,ah (z=some a)∧f a=some r:=by
 obtain⟨a,h1,h2⟩:=Option.bind_eq_some_iff.mp h;exact⟨a,⟨h1⟩,h2⟩
theorem nm(e:α):∃y,ah (y=e):=⟨e,⟨rfl⟩⟩
end
theorem ak{p:Prop}(h:p):ah p:=⟨h⟩
theorem dn{p:Prop}(h:p:=by repeat(first|exact fK.refl _|apply fK.step)):p:=h
theorem nx{p:Prop}(h:p:=by first|exact Kd.Kw _ _ _ _ _|exact Kd.acV _ _ _ _ _|exact Kd.acW _ _ _ _ _|exact Kd.acX _ _ _ _ _|exact Kd.acU _ _ _ _ _):p:=h
theorem dq{p:Prop}(h:p:=by first|exact⟨rfl,_,World.drewN_drewN _ _ _⟩|exact⟨rfl,_,Eq.trans (World.drewN_drewN _ _ _) (congrArg (World.drewN _) (Nat.add_assoc _ _ _))⟩):p:=h
theorem YT{p:Prop}(h:p:=by first|omega|exact Nat.le_refl _):p:=h
theorem zi(i:Int)(h:decide (0≤i)=true:=by assumption):0≤i:=of_decide_eq_true h
theorem zj(i n:Int)(h:decide (i<n)=true:=by assumption):i<n:=of_decide_eq_true h
theorem tt{p q:Prop}(h:p)(k:q):(p=True)∧(q=True):=⟨eq_true h,eq_true k⟩
theorem bx(s:ByteArray)(i:Int)(h:decide (0≤i)=true:=by assumption)(k:decide (i<(s.size:Int))=true:=by assumption):((0≤i)=True)∧((i<(s.size:Int))=True)∧∀h:i.toNat<s.size,((s[i.toNat]'h).toNat:Int)=bt s i:=⟨eq_true (of_decide_eq_true h),eq_true (of_decide_eq_true k),xI s i⟩
theorem cl{w w':World}{a:Addr}{v:Value}(hb:Below w.heap.size w w')(h:w.cell? a=some v):w'.cell? a=some v:=BA hb h
theorem cu{α:Type}{d:Kd α}{a b:World}{A:Option Addr}{n:Nat}{xs:List α} [u:Up a b](h:Kd.C d a A n xs):Kd.C d b A n xs:=Kd.aK h u.up
theorem bs{w a b c:World} [u:Up a b](h:ah (Below w.heap.size w a))(hb:Below b.heap.size b c):ah (Below w.heap.size w c):=⟨aI (ul h.out) hb⟩
theorem mJ{w a W:World}{g:Nat} [u:Up a W](h:ah (Below w.heap.size w a))(hg:g=W.heap.size):ah (w.heap.size≤g):=⟨by rw[hg];exact aj (ul h.out)⟩
theorem rb{α:Type}{d:Kd α}{e:Nat}{a b c:World}{base:Nat}{ok:Nat→Prop}{v:Value}{xs:List α} [u:Up a b](h:ah (Kd.R d e a base ok v xs))(hb:Below b.heap.size b c):ah (Kd.R d e c base ok v xs):=⟨Kd.lZ (ur h.out) hb⟩
theorem kb{a b c:World}{g:Nat}{o:Obj} [u:Up a b](h:ah (a.heap[g]? =some o))(hb:Below b.heap.size b c):ah (c.heap[g]? =some o):=⟨jy (ub h.out) hb⟩
section
variable {P:Program} {ops:Array Oper} {o:Oper} {rest:List Oper} {a:Act} {Q:Exit→Act→World→Prop}
theorem gL(f N:Nat){fn:Func}(hf:P.funcs[f]? =some fn)(args:Array Value){as:Array Operand}{ts:Array TypeId}{w:World}(h:Calls P f args w fun e w'=>∃v,e= .returned v∧wpList P ops Q rest (a.put (some N) v) w')
  (hop : o.op = .call { callee := .value (.func f), args := as, argTypes := ts } := by with_reducible rfl) (hd : o.dst = some N := by with_reducible rfl) (hg : o.guard = none := by with_reducible rfl) (hname : (fn.name == "runtime.NumGoroutine") = false := by kernel_rfl) (hb : fn.body.isSome = true := by rfl)
  (hargs:as.map a.eval=args:=by(try simp only[List.map_toArray,List.map_cons,List.map_nil]);first|done|rfl|(simp only[List.length_drop,List.length_take];rfl)):wpList P ops Q (o:: rest) a w:=axj (some N) hd hg hf hname hb args hop hargs h
theorem bE(N:Nat){W:World}(cs:Array Value)(t:TypeId)(h:∀g,g=W.heap.size→∀w1,w1.heap[g]? =some (.cells cs t (0,0))→Below W.heap.size W w1→wpList P ops Q rest (a.put o.dst (.pointer (some ⟨g,0,none⟩))) w1)
  (hd:o.dst=some N:=by with_reducible rfl) (hg:o.guard=none:=by with_reducible rfl) (hr:(execOp a.eval o).run P W= .ok (.value (.pointer (some ⟨W.heap.size,0,none⟩))) (W.alloc (.cells cs t (0,0))):=by first|(go_simp;done)|(go_simp;rfl)):wpList P ops Q (o:: rest) a W:=ajV hg hd hr h
end
section
variable {P:Program} {ops:Array Oper} {Q:Exit→Act→World→Prop} {S:World→Prop}
def an1(ops:Array Oper)(ls:List Nat):Array Bool→List Nat→Bool
 |l,[]=>Region.ready .any ops l==[]
 |l,i:: is=>(match ops[i]? with
  |some _=>if ls.contains i then Region.ready .any ops l==[i]else Region.free .any ops l i&&(Region.ready .any ops l).contains i&&Region.JL .any ops l
  |none=>false)&&an1 ops ls (l.setIfInBounds i true) is
def YM(P:Program)(ops:Array Oper)(Q:Exit→Act→World→Prop)(S:World→Prop)(ls:List Nat):List Nat→Act→World→Prop
 |[],a,w=>Q .normal a w
 |i:: is,a,w=>∃o,ops[i]? =some o∧((ls.contains i=false∧∃v,YieldsIf P ops S o v a∧YM P ops Q S ls is (a.put o.dst v) w)∨
   (ls.contains i=true∧∀K:Act→World→Prop,Shut (∀a' w',S w'→YM P ops Q S ls is a' w'→K a' w')→if Region.wanted o (yielded ops a.tmps)=true then Oper.wp P o a w K Q else K (a.put o.dst undef) w))
theorem Un{ls:List Nat}(hs:Region.noSelect ops=true)(hQ:∀c a d v w,Q (.panic c) (Act.put a d v) w→Q (.panic c) a w):∀(is:List Nat) (l:Array Bool) (a:Act) (w:World),an1 ops ls l is=true→S w→YM P ops Q S ls is a w→eH P .any ops Q S [] is.length l a w
 |[],l,a,w,hc,_,h=>FQ (by simpa [an1] using hc) h 0
 |i:: is,l,a,w,hc,hS,h=>by
  obtain⟨o,ho,h⟩:=h;simp only[an1,ho,Bool.and_eq_true]at hc;obtain⟨hc,hr⟩:=hc;rcases h with⟨hq,v,hy,h⟩|⟨hq,h⟩
  ·rw[hq]at hc;simp only[Bool.false_eq_true,if_false,Bool.and_eq_true]at hc;obtain⟨⟨h1,h2⟩,h3⟩:=hc;exact FP ho hs h1 h2 h3 (by simp[Region.lastB]) (fun c a' w' h'=>hQ c a' _ _ w' h') hy hS (Un hs hQ is _ _ _ hr hS h)
  ·rw[hq]at hc;simp only[if_true]at hc;exact sF (by simpa using hc) (by simp) (kW.cons ho (by simp) (fun K hK=>h K (fun a' w' hS' h'=>hK a' w' hS' (fun axt=>Un hs hQ is _ _ _ hr axt h'))) kW.nil)
def axu(ops:Array Oper)(ls is:List Nat):Bool:=Region.noSelect ops&&(is.length==ops.size)&&an1 ops ls (Array.replicate ops.size false) is
theorem ro{id:Nat}{a:Act}{w:World}(ls is:List Nat)(S:World→Prop)(hS:S w.drew)(h:YM P ops Q S ls is a w.drew)(hm:P.follows .mixedOrders=true:=by kernel_rfl)(hc:axu ops ls is=true:=by kernel_rfl)
  (hQ:∀c a d v w,Q (.panic c) (Act.put a d v) w→Q (.panic c) a w:=by exact fun _ _ d _ _ h=>by cases d<;>exact h):(Code.region id ops true).wp P Q a w:=by
 simp only[axu,Bool.and_eq_true,beq_iff_eq]at hc;obtain⟨⟨h1,h2⟩,h3⟩:=hc;refine FT (S:=S) (ds:=[]) hm ?_;have:=Un h1 hQ is _ a w.drew h3 hS h
 rwa [h2]at this
theorem on{ls:List Nat}{a:Act}{w:World}(h:Q .normal a w):YM P ops Q S ls [] a w:=h
theorem lk{ls:List Nat}{i:Nat}{is:List Nat}{o:Oper}{v:Value}{a:Act}{w:World}(ho:ops[i]? =some o)(hl:ls.contains i=false)(hw:Region.wanted o (yielded ops a.tmps)=true)(hy:∀w',S w'→(execOp a.eval o).run P w'= .ok (.value v) w'){a':Act}(ha:a.put o.dst v=a')(h:YM P ops Q S ls is a' w):YM P ops Q S ls (i:: is) a w:=by
 subst ha;exact⟨o,ho, .inl ⟨hl,v, .inl ⟨hw,hy⟩,h⟩⟩
theorem lf{ls:List Nat}{i:Nat}{is:List Nat}{o:Oper}{a:Act}{w:World}(ho:ops[i]? =some o)(hl:ls.contains i=false)(hw:Region.wanted o (yielded ops a.tmps)=false){a':Act}(ha:a.put o.dst undef=a')(h:YM P ops Q S ls is a' w):YM P ops Q S ls (i:: is) a w:=by
 subst ha;exact⟨o,ho, .inl ⟨hl,undef, .inr ⟨hw,rfl⟩,h⟩⟩
theorem ld{ls:List Nat}{i:Nat}{is:List Nat}{o:Oper}{a:Act}{w:World}{N:Option Tmp}(ho:ops[i]? =some o)(hl:ls.contains i=true)(hN:o.dst=N)(h:∀K:Act→World→Prop,Shut (∀a' w',S w'→YM P ops Q S ls is a' w'→K a' w')→if Region.wanted o (yielded ops a.tmps)=true then Oper.wp P o a w K Q else K (a.put N undef) w):YM P ops Q S ls (i:: is) a w:=by
 subst hN;exact⟨o,ho, .inr ⟨hl,h⟩⟩
theorem no{ls is:List Nat}{a a':Act}{w:World}(ha:a=a')(h:YM P ops Q S ls is a' w):YM P ops Q S ls is a w:=by
 subst ha;exact h
end
theorem gk{α:Type}{l:List α}{i:Nat}:l.toArray[i]? =l[i]?:=List.getElem?_toArray
section
variable {P:Program} {ops:Array Oper} {o:Oper} {rest:List Oper} {a:Act} {Q:Exit→Act→World→Prop}
theorem gA{f N:Nat}{fn:Func}{args:Array Value}{as:Array Operand}{ts:Array TypeId}{w:World}{r:Value}(hf:P.funcs[f]? =some fn)(hc:Calls P f args w fun e w'=>e= .returned r∧fK w w')(h:∀n,wpList P ops Q rest (a.put (some N) r) (w.drewN n))
  (hop : o.op = .call { callee := .value (.func f), args := as, argTypes := ts } := by with_reducible rfl) (hd : o.dst = some N := by with_reducible rfl) (hg : o.guard = none := by with_reducible rfl) (hname : (fn.name == "runtime.NumGoroutine") = false := by kernel_rfl) (hb : fn.body.isSome = true := by rfl)
  (hargs:as.map a.eval=args:=by exact ma):wpList P ops Q (o:: rest) a w:=
 gL f N hf args (hc.mono fun e w' ⟨he,⟨n,hn⟩⟩=>by subst hn;exact⟨_,he,h n⟩) hop hd hg hname hb hargs
theorem gB{f N:Nat}{fn:Func}{args:Array Value}{as:Array Operand}{ts:Array TypeId}{w:World}{r:Value}(hf:P.funcs[f]? =some fn)(hc:Calls P f args w fun e w'=>e= .returned r∧Below w.heap.size w w')(h:∀w',Below w.heap.size w w'→wpList P ops Q rest (a.put (some N) r) w')
  (hop : o.op = .call { callee := .value (.func f), args := as, argTypes := ts } := by with_reducible rfl) (hd : o.dst = some N := by with_reducible rfl) (hg : o.guard = none := by with_reducible rfl) (hname : (fn.name == "runtime.NumGoroutine") = false := by kernel_rfl) (hb : fn.body.isSome = true := by rfl)
  (hargs:as.map a.eval=args:=by exact ma):wpList P ops Q (o:: rest) a w:=
 gL f N hf args (hc.mono fun e w' ⟨he,hn⟩=>⟨_,he,h w' hn⟩) hop hd hg hname hb hargs
theorem gV{f N:Nat}{fn:Func}{args:Array Value}{as:Array Operand}{ts:Array TypeId}{w:World}{F:Value→Value}{S:Value→World→Prop}(hf:P.funcs[f]? =some fn)(hc:Calls P f args w fun e w'=>∃v,e= .returned (F v)∧S v w')(h:∀v w',S v w'→wpList P ops Q rest (a.put (some N) (F v)) w')
  (hop : o.op = .call { callee := .value (.func f), args := as, argTypes := ts } := by with_reducible rfl) (hd : o.dst = some N := by with_reducible rfl) (hg : o.guard = none := by with_reducible rfl) (hname : (fn.name == "runtime.NumGoroutine") = false := by kernel_rfl) (hb : fn.body.isSome = true := by rfl)
  (hargs:as.map a.eval=args:=by exact ma):wpList P ops Q (o:: rest) a w:=
 gL f N hf args (hc.mono fun e w' ⟨v,he,hn⟩=>⟨_,he,h v w' hn⟩) hop hd hg hname hb hargs
theorem YK{a W:World}{g g':Nat}{o:Obj} [u:Up a W](h:ah (a.heap[g]? =some o))(hg:g'=W.heap.size):ah (g≠g'):=⟨by rw[hg];exact Nat.ne_of_lt (dI (ub h.out))⟩
theorem YL{a W:World}{g g':Nat}{o:Obj} [u:Up a W](h:ah (a.heap[g]? =some o))(hg:g'=W.heap.size):ah (g'≠g):=⟨by rw[hg];exact Nat.ne_of_gt (dI (ub h.out))⟩
theorem bY{w b W:World}(_hB:ah (Below w.heap.size w b))(N:Nat)(cs:Array Value)(t:TypeId)(h:∀g w1,ah (w1.heap[g]? =some (.cells cs t (0,0)))→ah (w.heap.size≤g)→g=W.heap.size→Below W.heap.size W w1→wpList P ops Q rest (a.put o.dst (.pointer (some ⟨g,0,none⟩))) w1)
  (hd:o.dst=some N:=by with_reducible rfl) (hg:o.guard=none:=by with_reducible rfl) (hr:(execOp a.eval o).run P W= .ok (.value (.pointer (some ⟨W.heap.size,0,none⟩))) (W.alloc (.cells cs t (0,0))):=by first|(go_simp;done)|(go_simp;rfl)) (hW:Below w.heap.size w W:=by exact bb):wpList P ops Q (o:: rest) a W:=
 bE N cs t (fun g hg w1 h1 hb=>h g w1 ⟨h1⟩ ⟨by rw[hg];exact aj hW⟩ hg hb) hd hg hr
theorem bX{w b W:World}(hB:ah (Below w.heap.size w b))(N:Nat)(cs:Array Value)(t:TypeId)(h:∀g w1,ah (w1.heap[g]? =some (.cells cs t (0,0)))→ah (w.heap.size≤g)→Below W.heap.size W w1→wpList P ops Q rest (a.put o.dst (.pointer (some ⟨g,0,none⟩))) w1)
  (hd:o.dst=some N:=by with_reducible rfl) (hg:o.guard=none:=by with_reducible rfl) (hr:(execOp a.eval o).run P W= .ok (.value (.pointer (some ⟨W.heap.size,0,none⟩))) (W.alloc (.cells cs t (0,0))):=by first|(go_simp;done)|(go_simp;rfl)) (hW:Below w.heap.size w W:=by exact bb):wpList P ops Q (o:: rest) a W:=
 bY hB N cs t (fun g w1 h1 h2 _ hb=>h g w1 h1 h2 hb) hd hg hr hW
theorem lRM{α:Type}{W:World}{xs y:List α}(N:Nat)(d:Kd α)(e:Nat)(inner:List Value)(Ny:ah (y=xs))(hp:jJ (d.M W W.heap.size (fun _=>True)) d.sz xs inner)(h:∀v1 w1,d.R e w1 W.heap.size (fun _=>True) v1 y→Below W.heap.size W w1→wpList P ops Q rest (a.put o.dst v1) w1)
  (hd:o.dst=some N:=by with_reducible rfl) (hg:o.guard=none:=by with_reducible rfl) (hm:xs.length≤9223372036854775807:=by simp) (hr:(execOp a.eval o).run P W= .ok (.value (.slice (some ⟨W.heap.size,0,none⟩) xs.length xs.length)) (W.alloc (.cells inner.toArray e)):=by first|(go_simp;done)|(go_simp;rfl)):wpList P ops Q (o:: rest) a W:=by
 obtain⟨Ny⟩:=Ny;subst Ny;exact Kd.Es d _ e hg (N:=N) hd (rE:=fun _=>True) hr hp (fun _ hk=>hk) trivial (Below.refl _ _) (Nat.le_refl _) hm (fun v1 w1 h1 h2 _ _=>h v1 w1 h1 h2)
theorem lRN{α:Type}{W:World}{y:List α}(N:Nat)(d:Kd α)(e:Nat)(Ny:ah (y=[]))(h:∀v1 w1,d.R e w1 W.heap.size (fun _=>True) v1 y→Below W.heap.size W w1→wpList P ops Q rest (a.put o.dst v1) w1)
  (hd:o.dst=some N:=by with_reducible rfl) (hg:o.guard=none:=by with_reducible rfl) (hr:(execOp a.eval o).run P W= .ok (.value (.slice (some ⟨W.heap.size,0,none⟩) ([]:List α).length ([]:List α).length)) (W.alloc (.cells ([]:List Value).toArray e)):=by first|(go_simp;done)|(go_simp;rfl)):wpList P ops Q (o:: rest) a W:=
 lRM N d e [] Ny (jJ.none _ _) h hd hg (by simp) hr
theorem aP{α:Type}{w b W:World}{xs y:List α}{p:α}{v:Value}{cs:List Value} [u:Up b W](s x:Nat)(d:Kd α)(t e:TypeId)(z:Value)(bytes:Nat)(ht:P.underlying t=some (.slice e))(hi:(P.info? e).map (fun i=>(i.zero,i.size,i.bytes))=some (some z,d.sz,bytes))(hB:ah (Below w.heap.size w b))(HO:d.R e W w.heap.size (fun _=>True) v xs)(Ny:ah (y=xs++[p]))(hl:(xs.length+1)*bytes≤140737488355328)
  (h:∀v1 w1,d.R e w1 w.heap.size (fun _=>True) v1 y→Below w.heap.size w w1→W.grownBy w1 v.ownBlock→(v1.ownBlock=v.ownBlock∨∃b,v1.ownBlock=some b∧W.heap.size≤b)→wpList P ops Q rest (a.put o.dst v1) w1)
  (ho:o.op= .call {callee:= .builtin .append,args:=#[.tmp s, .tmp x],argTypes:=#[t,t]}:=by with_reducible rfl) (hg:o.guard=none:=by with_reducible rfl) (hz:z.cells.size=d.sz:=by rfl) (hs0:0<d.sz:=by decide) (hb0:0<bytes:=by decide) (hs:a.eval (.tmp s)=v:=by rfl) (hx:a.eval (.tmp x)= .slice (some ⟨W.heap.size,0,none⟩) 1 1:=by rfl)
  (hp:d.M W w.heap.size (fun _=>False) p cs:=by exact rfl):wpList P ops Q (o:: rest) a (W.alloc (.cells cs.toArray e)):=by
 obtain⟨Ny⟩:=Ny;subst Ny;exact Kd.mD d (w0:=w) w.heap.size hg (.tmp s) (.tmp x) t e z bytes ho ht hi hz hs0 hb0 v xs p cs (fun _=>True) (fun _=>False) hs hx hp (fun _ hk=>hk.elim) (fun _ _=>trivial) HO (ul hB.out) (aj (ul hB.out)) hl h
end
theorem sx{p:Prop}(h:p:=by(try exact trivial)<;>(and_intros<;>exact(aG (ah.out (by assumption)) _).trans rfl)):p:=h
theorem zz{α:Type}{x:Option α}{r:α}{p:Prop}(h:x=some r)(hx:x=none:=by rfl):p:=by rw[hx]at h;cases h
theorem ny{α β:Type}{e:β}{f:β→Option α}{r:α}(h:(some e).bind f=some r):∃y,ah (y=e)∧f y=some r:=⟨e,⟨rfl⟩,h⟩
section
variable {P:Program} {ops:Array Oper} {Q:Exit→Act→World→Prop} {S:World→Prop}
theorem rO{id:Nat}{a:Act}{w:World}(ls is:List Nat)(S:World→Prop)(h:∀wd:World,Below w.heap.size w wd→S wd∧YM P ops Q S ls is a wd)(hm:P.follows .mixedOrders=true:=by kernel_rfl)(hc:axu ops ls is=true:=by kernel_rfl)
  (hQ:∀c a d v w,Q (.panic c) (Act.put a d v) w→Q (.panic c) a w:=by exact fun _ _ d _ _ h=>by cases d<;>exact h):(Code.region id ops true).wp P Q a w:=
 ro ls is S (h _ (fO (Below.refl _ _))).1 (h _ (fO (Below.refl _ _))).2 hm hc hQ
theorem Jr{ls:List Nat}{i:Nat}{is:List Nat}{o:Oper}{v:Value}{a a':Act}{w:World}(h:YM P ops Q S ls is a' w)(ho:ops[i]? =some o:=by exact gk.trans rfl)(hl:ls.contains i=false:=by rfl)(hw:Region.wanted o (yielded ops a.tmps)=true:=by rfl)
  (hy:∀w',S w'→(execOp a.eval o).run P w'= .ok (.value v) w':=by intro w' hS;go_simp;with_reducible rfl) (ha:a.put o.dst v=a':=by simp only[Act.put,jB,jC,l_c,bJ,b_];rfl):YM P ops Q S ls (i:: is) a w:=lk ho hl hw hy ha h
theorem lg_{ls:List Nat}{i:Nat}{is:List Nat}{o:Oper}{a a':Act}{w:World}(h:YM P ops Q S ls is a' w)(ho:ops[i]? =some o:=by exact gk.trans rfl)(hl:ls.contains i=false:=by rfl)(hw:Region.wanted o (yielded ops a.tmps)=false:=by rfl)
  (ha:a.put o.dst undef=a':=by simp only[Act.put,jB,jC,l_c,bJ,b_];rfl):YM P ops Q S ls (i:: is) a w:=lf ho hl hw ha h
theorem rB{ls:List Nat}{i:Nat}{is:List Nat}{o:Oper}{a a':Act}{w:World}{f N:Nat}{fn:Func}{args:Array Value}{as:Array Operand}{ts:Array TypeId}{r:Value}(hf:P.funcs[f]? =some fn)(hc:Calls P f args w fun e w'=>e= .returned r∧Below w.heap.size w w')(h:∀w',Below w.heap.size w w'→S w'∧YM P ops Q S ls is a' w')
  (ho : ops[i]? = some o := by exact gk.trans rfl) (hl : ls.contains i = true := by rfl) (hw : Region.wanted o (yielded ops a.tmps) = true := by rfl) (hN : o.dst = some N := by rfl) (hop : o.op = .call { callee := .value (.func f), args := as, argTypes := ts } := by rfl) (hname : (fn.name == "runtime.NumGoroutine") = false := by kernel_rfl) (hb : fn.body.isSome = true := by rfl)
  (hargs:as.map a.eval=args:=by exact ma) (ha:a.put (some N) r=a':=by simp only[Act.put,jB,jC,l_c,bJ,b_];rfl):YM P ops Q S ls (i:: is) a w:=by
 subst ha;exact ld ho hl hN fun K hK=>vG hf hname hb args hw hN hop hargs (hc.mono fun e w' ⟨he,hn⟩=>⟨_,he,hK.out _ _ (h w' hn).1 (h w' hn).2⟩)
theorem rA{ls:List Nat}{i:Nat}{is:List Nat}{o:Oper}{a a':Act}{w:World}{f N:Nat}{fn:Func}{args:Array Value}{as:Array Operand}{ts:Array TypeId}{r:Value}(hf:P.funcs[f]? =some fn)(hc:Calls P f args w fun e w'=>e= .returned r∧fK w w')(h:∀n,S (w.drewN n)∧YM P ops Q S ls is a' (w.drewN n))
  (ho : ops[i]? = some o := by exact gk.trans rfl) (hl : ls.contains i = true := by rfl) (hw : Region.wanted o (yielded ops a.tmps) = true := by rfl) (hN : o.dst = some N := by rfl) (hop : o.op = .call { callee := .value (.func f), args := as, argTypes := ts } := by rfl) (hname : (fn.name == "runtime.NumGoroutine") = false := by kernel_rfl) (hb : fn.body.isSome = true := by rfl)
  (hargs:as.map a.eval=args:=by exact ma) (ha:a.put (some N) r=a':=by simp only[Act.put,jB,jC,l_c,bJ,b_];rfl):YM P ops Q S ls (i:: is) a w:=by
 subst ha;exact ld ho hl hN fun K hK=>vG hf hname hb args hw hN hop hargs (hc.mono fun e w' ⟨he,⟨n,hn⟩⟩=>by subst hn;exact⟨_,he,hK.out _ _ (h n).1 (h n).2⟩)
end
theorem ab2{P:Program}{c:Code}{Q:Exit→Act→World→Prop}{a:Act}{w b W:World}{g t:Nat}{u v x y:Value} [up:Up b W](hB:ah (Below w.heap.size w b))(hK:ah (b.heap[g]? =some (.cells #[u,v] t (0,0))))(hG:ah (w.heap.size≤g))
  (h:∀W',ah (W'.heap[g]? =some (.cells #[x,y] t (0,0)))→ah (∀a' g' o,Up a' W→a'.heap[g']? =some o→g'≠g→W'.heap[g']? =some o)→ah (Below w.heap.size w W')→c.wp P Q a W'):c.wp P Q a ((W.setCell ⟨g,0,none⟩ x).setCell ⟨g,1,none⟩ y):=
 h _ ⟨bU (cs:=#[x,v]) (bU (cs:=#[u,v]) (ub hK.out) 0 _ rfl) 1 _ rfl⟩ ⟨fun _ _ _ hu h1 h2=>(Below.heap_setCell _ _ _ _ h2).trans ((Below.heap_setCell _ _ _ _ h2).trans (jy h1 hu.up))⟩ ⟨nT (nT (ul hB.out) hG.out) hG.out⟩
theorem kf{a W W':World}{g g':Nat}{o:Obj} [u:Up a W](h:ah (a.heap[g']? =some o))(k:ah (∀a' g' o,Up a' W→a'.heap[g']? =some o→g'≠g→W'.heap[g']? =some o))(n:ah (g'≠g)):ah (W'.heap[g']? =some o):=⟨k.out a g' o u h.out n.out⟩
section
variable {P:Program} {ops:Array Oper} {o:Oper} {rest:List Oper} {a:Act} {Q:Exit→Act→World→Prop}
theorem gG(N:Nat){W:World}(h:wpList P ops Q ({o with guard:=none}:: rest) a W)(hd:o.dst=some N:=by with_reducible rfl)(hw:Region.wanted o (yielded ops a.tmps)=true:=by rfl):wpList P ops Q (o:: rest) a W:=dW hw h
end
section
variable {α β γ δ ε:Type} {a a':α} {b b':β} {c c':γ} {d d':δ} {e e':ε}
theorem s1(h:some a=some a'):a=a':=Option.some.inj h
theorem s2(h:some (a,b)=some (a',b')):a=a'∧b=b':=by cases h;exact⟨rfl,rfl⟩
theorem s3(h:some (a,b,c)=some (a',b',c')):a=a'∧b=b'∧c=c':=by cases h;exact⟨rfl,rfl,rfl⟩
theorem s4(h:some (a,b,c,d)=some (a',b',c',d')):a=a'∧b=b'∧c=c'∧d=d':=by cases h;exact⟨rfl,rfl,rfl,rfl⟩
theorem s5(h:some (a,b,c,d,e)=some (a',b',c',d',e')):a=a'∧b=b'∧c=c'∧d=d'∧e=e':=by cases h;exact⟨rfl,rfl,rfl,rfl,rfl⟩
end
theorem bq{p:Prop}(h:p:=by
  repeat(with_reducible first|exact ah.out (by assumption)|refine ay ?_ _|refine aC ?_|refine au ?_ _|(apply fJ;rotate_left;exact ah.out (by assumption);rotate_right)|apply bU)
  all_goals rfl):p:=h
theorem kp{a b c:World}{g t:Nat}{cs0:Array Value}(_old:ah (a.heap[g]? =some (.cells cs0 t (0,0))))(cs:Array Value)(hb:Below b.heap.size b c)(h:b.heap[g]? =some (.cells cs t (0,0)):=by
  repeat(with_reducible first|exact ah.out (by assumption)|refine ay ?_ _|refine aC ?_|refine au ?_ _|(apply fJ;rotate_left;exact ah.out (by assumption);rotate_right)|apply bU)
  all_goals rfl):ah (c.heap[g]? =some (.cells cs t (0,0))):=⟨jy h hb⟩
theorem bz{w a b c:World}(_old:ah (Below w.heap.size w a))(hb:Below b.heap.size b c)(h:Below w.heap.size w b:=by exact bb):ah (Below w.heap.size w c):=⟨aI h hb⟩
section
variable {α:Type} {d:Kd α} {e base:Nat} {ok:Nat→Prop} {v:Value} {xs:List α} {a b c:World} {g t:Nat} {cs:Array Value} {x y z:Value} {i j k:Nat}
theorem rf1(h:Kd.R d e a base ok v xs)(K:a.heap[g]? =some (.cells cs t (0,0)))(ht:∀q,q∈e:: d.E→q≠t):Kd.R d e (a.setCell ⟨g,i,none⟩ x) base ok v xs:=
 Kd.aY (Kd.bK (p:=⟨g,i,none⟩) (Kd.eP h K ht) (fun _ hk=>hk.2) x) (fun _ h=>h.1)
theorem rf2(h:Kd.R d e a base ok v xs)(K:a.heap[g]? =some (.cells cs t (0,0)))(ht:∀q,q∈e:: d.E→q≠t):Kd.R d e ((a.setCell ⟨g,i,none⟩ x).setCell ⟨g,j,none⟩ y) base ok v xs:=
 Kd.aY (Kd.bK (p:=⟨g,j,none⟩) (Kd.bK (p:=⟨g,i,none⟩) (Kd.eP h K ht) (fun _ hk=>hk.2) x) (fun _ hk=>hk.2) y) (fun _ h=>h.1)
theorem rf3(h:Kd.R d e a base ok v xs)(K:a.heap[g]? =some (.cells cs t (0,0)))(ht:∀q,q∈e:: d.E→q≠t):Kd.R d e (((a.setCell ⟨g,i,none⟩ x).setCell ⟨g,j,none⟩ y).setCell ⟨g,k,none⟩ z) base ok v xs:=
 Kd.aY (Kd.bK (p:=⟨g,k,none⟩) (Kd.bK (p:=⟨g,j,none⟩) (Kd.bK (p:=⟨g,i,none⟩) (Kd.eP h K ht) (fun _ hk=>hk.2) x) (fun _ hk=>hk.2) y) (fun _ hk=>hk.2) z) (fun _ h=>h.1)
theorem vb [u:Up a b](h:ah (Kd.V d e a base ok v xs))(hb:Below b.heap.size b c):ah (Kd.V d e c base ok v xs):=⟨Kd.jV (Kd.jV h.out u.up) hb⟩
theorem rh(_old:ah (Kd.R d e a base ok v xs))(h:Kd.R d e b base ok v xs:=by
  (with_reducible repeat(first|apply Kd.aiL|apply Kd.aiM|apply Kd.yB));first|exact ah.out (by assumption)|exact rf1 (ah.out (by assumption)) (ah.out (by assumption)) (by decide)|exact rf2 (ah.out (by assumption)) (ah.out (by assumption)) (by decide)|exact rf3 (ah.out (by assumption)) (ah.out (by assumption)) (by decide)):Kd.R d e b base ok v xs:=h
end
section
variable {P:Program} {ops:Array Oper} {o:Oper} {rest:List Oper} {a:Act} {Q:Exit→Act→World→Prop}
theorem gD{f N:Nat}{fn:Func}{args:Array Value}{as:Array Operand}{ts:Array TypeId}{w:World}{r:Value}(hf:P.funcs[f]? =some fn)(hc:Calls P f args w fun e w'=>e= .returned r∧fK w w')(h:∀w',Below w.heap.size w w'→wpList P ops Q rest (a.put (some N) r) w')
  (hop : o.op = .call { callee := .value (.func f), args := as, argTypes := ts } := by with_reducible rfl) (hd : o.dst = some N := by with_reducible rfl) (hg : o.guard = none := by with_reducible rfl) (hname : (fn.name == "runtime.NumGoroutine") = false := by kernel_rfl) (hb : fn.body.isSome = true := by rfl)
  (hargs:as.map a.eval=args:=by exact ma):wpList P ops Q (o:: rest) a w:=
 gB hf (hc.mono fun _ _ ⟨he,hn⟩=>⟨he,hn.below⟩) h hop hd hg hname hb hargs
theorem mA{P:Program}{f:Nat}{args:Array Value}{w:World}{r:Value}{R:Ending→World→Prop}(hc:Calls P f args w fun e w'=>e= .returned r∧fK w w')(h:∀n,R (.returned r) (w.drewN n)):Calls P f args w R:=hc.mono fun e w' ⟨he,⟨n,hn⟩⟩=>by subst he;subst hn;exact h n
theorem mB{P:Program}{f:Nat}{args:Array Value}{w:World}{r:Value}{R:Ending→World→Prop}(hc:Calls P f args w fun e w'=>e= .returned r∧Below w.heap.size w w')(h:∀w',Below w.heap.size w w'→R (.returned r) w'):Calls P f args w R:=hc.mono fun e w' ⟨he,hn⟩=>by subst he;exact h _ hn
end
theorem kl{p:Prop}(h:p:=by
  (try have Ec:=jv.out);(try have i1_:=FY.out);(try have Ed:=HK2.out);(try have i2_:=HJ2.out);(try have Hr:=HK3.out);(try have i3_:=HJ3.out);(try have Na:=HK4.out);(try have i4_:=HJ4.out);(try have VJ:=HK5.out);(try have i5_:=HJ5.out);(try have VK:=HK6.out);(try have i6_:=HJ6.out);(try have VL:=HK7.out);(try have i7_:=HJ7.out);(try have VN:=HK8.out);(try have i8_:=HJ8.out);(try have VO:=HK9.out);(try have i9_:=HJ9.out);(try have G_:=aM0.out);(try have aM1:=aM2.out);(try have Va:=aM3.out);(try have aM4:=aM5.out);(try have aM6:=aM7.out);(try have aM8:=ak7.out);first|omega|exact Nat.le_refl _):p:=h
def Ty(w:World)(g t:Nat):Prop:=∃cs,w.heap[g]? =some (.cells cs t (0,0))
theorem Ty.of{w:World}{g t:Nat}{cs:Array Value}(h:w.heap[g]? =some (.cells cs t (0,0))):Ty w g t:=⟨cs,h⟩
theorem Ty.set{w:World}{g t g' i:Nat}{u:Value}(h:Ty w g t):Ty (w.setCell ⟨g',i,none⟩ u) g t:=by
 obtain⟨cs,h⟩:=h;by_cases e:g=g'
 ·subst e;exact⟨_,acA h i u⟩
 ·exact⟨cs,fJ h e u⟩
theorem Ty.up{a b:World}{g t:Nat} [u:Up a b](h:Ty a g t):Ty b g t:=by
 obtain⟨cs,h⟩:=h;exact⟨cs,jy h u.up⟩
theorem Ty.alloc{a:World}{g t:Nat}{o:Obj}(h:Ty a g t):Ty (a.alloc o) g t:=h.up
theorem Ty.drewN{a:World}{g t n:Nat}(h:Ty a g t):Ty (a.drewN n) g t:=h.up
theorem Ty.drew{a:World}{g t:Nat}(h:Ty a g t):Ty a.drew g t:=h.up
theorem aHi{α:Type}{d:Kd α}{e base:Nat}{ok:Nat→Prop}{v:Value}{xs:List α}{a:World}{g t i:Nat}{x:Value}(h:Kd.R d e a base ok v xs)(T:Ty a g t)(ht:∀q,q∈e:: d.E→q≠t):Kd.R d e (a.setCell ⟨g,i,none⟩ x) base ok v xs:=by
 obtain⟨cs,T⟩:=T;exact rf1 h T ht
theorem aB8{α:Type}{d:Kd α}{e base:Nat}{ok okF:Nat→Prop}{v:Value}{xs:List α}{a b:World}(_F:Kd.R d e a base okF v xs)(h:Kd.R d e b base okF v xs)(k:∀k,okF k→ok k):Kd.R d e b base ok v xs:=Kd.aY h k
theorem rr{p:Prop}(h:p:=by
  first|(with_reducible exact ah.out (by assumption))|skip
  all_goals (refine aB8 (ah.out (by assumption)) ?_ (fun k_ hk_=>?_);rotate_left;(first|exact trivial|exact hk_|exact hk_.1|exact hk_.2|simp_all);(repeat(first|(with_reducible first|exact ah.out (by assumption)|apply Kd.aiL|apply Kd.aiM|apply Kd.yB)|refine aHi ?_ (by repeat(with_reducible first|exact Ty.of (ah.out (by assumption))|apply Ty.set|apply Ty.alloc|apply Ty.drewN|apply Ty.drew)) (by decide)|refine Kd.bK ?_ (by intro k_ hk_;first|exact hk_.2|exact hk_.1.2|simp_all) _)))):p:=h
section
variable {P:Program} {md:Region.Mode} {ops:Array Oper} {Q:Exit→Act→World→Prop} {S:World→Prop} {ds:List Nat} {fuel:Nat} {l l':Array Bool} {a a':Act} {w:World} {oi:Oper} {N:Option Tmp} {v:Value}
theorem pl(i:Nat)(h:eH P md ops Q S ds fuel l' a' w)(hi:ops[i]? =some oi:=by exact gk.trans rfl)(hN:oi.dst=N:=by rfl)(hl:l.setIfInBounds i true=l':=by simp only[jB,jC,l_c];rfl)(hc:anU md ops l l' i=true:=by exact rZ ug.out (by decide+kernel))(hQ:∀c a w,Q (.panic c) (a.put oi.dst v) w→Q (.panic c) a w:=by exact fun _ _ _ h=>h)
  (hw:Region.wanted oi (yielded ops a.tmps)=true:=by rfl) (hy:∀w',(execOp a.eval oi).run P w'= .ok (.value v) w':=by intro w';go_simp;with_reducible rfl) (ha:a.put N v=a':=by simp only[Act.put,jB,jC,l_c,bJ,b_];rfl):eH P md ops Q S ds (fuel+1) l a w:=rG l' hi hN hc hQ (Or.inl ⟨hw,hy⟩) ha h
theorem tk(i:Nat)(h:eH P md ops Q S ds fuel l' a' w)(hi:ops[i]? =some oi:=by exact gk.trans rfl)(hN:oi.dst=N:=by rfl)(hl:l.setIfInBounds i true=l':=by simp only[jB,jC,l_c];rfl)(hc:takeB md ops ds l l' i=true:=by first|exact uw ug.out HW_.out (by decide+kernel)|exact aiN ug.out (by decide+kernel))(hQ:∀c a w,Q (.panic c) (a.put oi.dst v) w→Q (.panic c) a w:=by exact fun _ _ _ h=>h)
  (hw:Region.wanted oi (yielded ops a.tmps)=true:=by rfl) (hy:∀w',S w'→(execOp a.eval oi).run P w'= .ok (.value v) w':=by intro w' hS;go_simp;with_reducible rfl) (hS:S w:=by exact hHeld) (ha:a.put N v=a':=by simp only[Act.put,jB,jC,l_c,bJ,b_];rfl):eH P md ops Q S ds (fuel+1) l a w:=BO l' hi hN hc hQ (Or.inl ⟨hw,hy⟩) hS ha h
theorem o1(i:Nat)(h:∀K:Act→World→Prop,Shut (∀a' w',S w'→(S w'→eH P md ops Q S ds fuel l' a' w')→K a' w')→if Region.wanted oi (yielded ops a.tmps)=true then Oper.wp P oi a w K Q else K (a.put N undef) w)(hi:ops[i]? =some oi:=by exact gk.trans rfl)(hN:oi.dst=N:=by rfl)(hl:l.setIfInBounds i true=l':=by simp only[jB,jC,l_c];rfl)
  (hc:OJ md ops l l' i=true:=by exact qM ug.out (by decide+kernel)) (hd:i∉ds:=by decide):eH P md ops Q S ds (fuel+1) l a w:=H_ l' hi hN hc hd h
theorem nrm(h:eH P md ops Q S ds fuel l a' w)(ha:a=a':=by simp only[Act.put,jB,jC,l_c,bJ,b_];rfl):eH P md ops Q S ds fuel l a w:=iT ha h
end
end Go.Proofs.YtdimppdlfgnhgaaGreatDoor.X
