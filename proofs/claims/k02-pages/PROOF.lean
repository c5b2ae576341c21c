import PyProof.Rows.All
import Wide.All
import OpenK.AllK
import Wide.FinOn
import KE.KStateDown
import Lean
import HandS.Base
import HandS.Call
import HandS.List
import HandS.Comp
import HandS.Ends
import HandS.Dict
import HandS.Iter
import HandS.Text
import HandS.More
import HandS.Exc
import HandS.ExcOwn
import HandS.ExcIs
import HandS.TryOnly
import HandS.IsInst
import HandS.Style
import HandS.TupLe
import HandS.TupAny
import HandS.Wide
import HandS.Words
import HandS.WordsList
import HandS.WordsDict
import HandS.WordsExc
import HandS.Defaults
import HandS.Evl
import HandS.Head0
import HandS.Head1
import HandS.Head2
import HandS.HeadEnd
import HandS.HeadHook1
import HandS.HeadHook2
import KE.DatumOrd
import KE.DataMinMax
import HandS.Flow
import HandS.Replace
import KE.GoesRaise
import PySem.Challenge.RW_sameanswer_k02_bytes_of_pages
set_option Elab.async false
set_option linter.all false
set_option maxRecDepth 100000
set_option maxHeartbeats 8000000
/-! law_k02_bytes_of_pages. Derivations and the head are printed by a program of ours from the row. -/
namespace L2.Q
/-! Q0 -/
section
open PySem PySem.Spec PyProof.Rows

/-! ### named operators -/
def rAddI : R2 := rI0 fun i j => .int (i + j)
def rSubI : R2 := rI0 fun i j => .int (i - j)
def rMulI : R2 := rI CMul fun i j => .int (i * j)
def rFdvI : R2 := rI CDivW fun i j => .int (i / j)
def rModI : R2 := rI (fun _ j => 0 < j) fun i j => .int (i % j)
def rPowI : R2 := rI CPow fun i j => .int (i ^ j.toNat)
def rLtI : R2 := rI0 fun i j => .bl (decide (i < j))
def rLeI : R2 := rI0 fun i j => .bl (decide (i ≤ j))
def rGtI : R2 := rI0 fun i j => .bl (decide (j < i))
def rGeI : R2 := rI0 fun i j => .bl (decide (j ≤ i))
def rNegI : V → Hp → VK → Prop := rU fun i => .int (-i)
def rIsNo : R2 := fun x y H Q => y = .non ∧ Q (.bl (decide (x = .non))) H
def rNotNo : R2 := fun x y H Q => y = .non ∧ Q (.bl (!decide (x = .non))) H
def rAddS : R2 := fun x y H Q => ∃ i j, x = .str i ∧ y = .str j ∧ i.length + j.length ≤ sizeLine ∧ Q (.str (i ++ j)) H
section
variable {X : Cx}
theorem oAddI : OpR X (binaryOp .Add) rAddI := op_add
theorem oSubI : OpR X (binaryOp .Sub) rSubI := op_sub
theorem oMulI : OpR X (binaryOp .Mult) rMulI := op_mul
theorem oFdvI : OpR X (binaryOp .FloorDiv) rFdvI := op_fdivW
theorem oModI : OpR X (binaryOp .Mod) rModI := op_mod
theorem oPowI : OpR X (binaryOp .Pow) rPowI := op_pow
theorem oLtI : OpR X (compareOp .Lt) rLtI := op_lt
theorem oLeI : OpR X (compareOp .LtE) rLeI := op_le
theorem oGtI : OpR X (compareOp .Gt) rGtI := op_gt
theorem oGeI : OpR X (compareOp .GtE) rGeI := op_ge
theorem oNegI : UnR X (unaryOp .USub) rNegI := un_neg
theorem oIsNo : OpR X (compareOp .Is) rIsNo := op_isN
theorem oNotNo : OpR X (compareOp .IsNot) rNotNo := op_notN
theorem oAddS : OpR X (binaryOp .Add) rAddS := op_add_str
end

/-! ### built-in calls, named -/
def rLenQ (K : PySem.W.Frag) : List V → Hp → VK → Prop := fun xs H Q => ∃ p ys, xs = [.ref p] ∧ (SqL K H p ys ∨ SqT K H p ys) ∧ Q (.int ys.length) H
def rLenD : List V → Hp → VK → Prop := fun xs H Q => ∃ a kvs, xs = [V.ref a] ∧ H a = some (.dK kvs) ∧ Q (.int kvs.length) H
def rLenT : List V → Hp → VK → Prop := fun xs H Q => ∃ z, xs = [.str z] ∧ z.length ≤ sizeLine ∧ Q (.int z.length) H
def rListQ (K : PySem.W.Frag) : List V → Hp → VK → Prop := fun xs H Q => ∃ p ys, xs = [.ref p] ∧ (SqL K H p ys ∨ SqT K H p ys) ∧ ∀ l, H l = none → Q (.ref l) (upd H l (.lst ys))
def rTupQ (K : PySem.W.Frag) : List V → Hp → VK → Prop := fun xs H Q => ∃ p ys, xs = [.ref p] ∧ ((SqL K H p ys ∧ ∀ l, H l = none → Q (.ref l) (upd H l (.tup ys))) ∨ (SqT K H p ys ∧ Q (.ref p) H))
def rInt1 : List V → Hp → VK → Prop := fun xs H Q => (∃ i, xs = [.int i] ∧ Q (.int i) H) ∨ ∃ k, xs = [.bl k] ∧ Q (.int (if k then 1 else 0)) H
def rMin2 : List V → Hp → VK → Prop := fun xs H Q => ∃ i j, xs = [.int i, .int j] ∧ Q (.int (if j < i then j else i)) H
def rMax2 : List V → Hp → VK → Prop := fun xs H Q => ∃ i j, xs = [.int i, .int j] ∧ Q (.int (if j > i then j else i)) H
def rAbs1 : List V → Hp → VK → Prop := fun xs H Q => ∃ i, xs = [.int i] ∧ Q (.int (if i < 0 then -i else i)) H
def rOrd1 : List V → Hp → VK → Prop := fun xs H Q => ∃ x, xs = [.str x] ∧ x.length = 1 ∧ Q (.int (x.cps.getD 0 0 : Nat)) H
section
variable {X : Cx}
theorem cLenQ : CallR X (.builtin "len") (rLenQ X.K) := call_len_seq
theorem cLenD : CallR X (.builtin "len") rLenD := call_lenD
theorem cLenT : CallR X (.builtin "len") rLenT := call_len_str
theorem cListQ : CallR X (.type "list") (rListQ X.K) := call_list_of
theorem cTupQ : CallR X (.type "tuple") (rTupQ X.K) := call_tuple_of
theorem cInt1 : CallR X (.type "int") rInt1 := call_int1
theorem cMin2 (hc : X.calm = true) : CallR X (.builtin "min") rMin2 := call_min2 hc
theorem cMax2 (hc : X.calm = true) : CallR X (.builtin "max") rMax2 := call_max2 hc
theorem cAbs1 : CallR X (.builtin "abs") rAbs1 := call_abs
theorem cOrd1 : CallR X (.builtin "ord") rOrd1 := call_ord
end

/-! ### constants of the module -/
section
variable {X : Cx} {x : Str} {pos : Pos}
theorem pe_gi {i : Int} (hg : Gl X x) (hm : ∃ t, X.mg x = some (.int i t)) (hd : (x == ("__debug__" : Str)) = false := by decide) : PE X (.Name x pos) (tC (.int i)) := by
  obtain ⟨t, h⟩ := hm
  exact pe_glob hg h ⟨t, rfl⟩ hd
theorem pe_gs {z : Str} (hg : Gl X x) (hm : ∃ t, X.mg x = some (.str z t)) (hd : (x == ("__debug__" : Str)) = false := by decide) : PE X (.Name x pos) (tC (.str z)) := by
  obtain ⟨t, h⟩ := hm
  exact pe_glob hg h ⟨t, rfl⟩ hd
end

/-! ### contracts -/
/-- the def that stands at at_ keeps the promise sp -/
structure Con (P : Program) (w : World) (K : PySem.W.Frag) (mg : Str → Option Value) (base : Heap) (CX : CXT) (k : Nat) (at_ : Str × Option Str) (ps : List Str) (sp : Sp) : Prop where
  ex : ∃ fd, FnOk P w K mg base CX k (He.fAd K at_) fd ps sp ∧ Binds K fd ps []
  kp : PySem.W.keepIn K (.ref (He.fAd K at_)) = true
theorem Con.imp {P : Program} {w : World} {K : PySem.W.Frag} {mg : Str → Option Value} {base : Heap} {CX : CXT} {k : Nat} {at_ : Str × Option Str} {ps : List Str} {sp sp' : Sp} (G : Con P w K mg base CX k at_ ps sp)
    (h : ∀ vs H Q E, sp' vs H Q E → sp vs H Q E) : Con P w K mg base CX k at_ ps sp' := by
  obtain ⟨⟨fd, F, b⟩, kp⟩ := G
  exact ⟨⟨fd, F.imp h, b⟩, kp⟩
theorem Con.mono {P : Program} {w : World} {K : PySem.W.Frag} {mg : Str → Option Value} {base : Heap} {CX : CXT} {k j : Nat} {at_ : Str × Option Str} {ps : List Str} {sp : Sp} (G : Con P w K mg base CX j at_ ps sp) (h : j ≤ k) : Con P w K mg base CX k at_ ps sp := by
  obtain ⟨⟨fd, F, b⟩, kp⟩ := G
  exact ⟨⟨fd, F.mono h, b⟩, kp⟩

theorem passN {X : Cx} {E : St → XK} : ∀ σ, PassesAt CX0 X σ (E σ) := fun _ _ _ _ _ _ _ h => h.elim
theorem passE {X : Cx} {E : XK} (tk : Takes X (fun cls d _ H => E cls d H)) : ∀ σ, PassesAt (L2.CX X.prog X.w) X σ E := fun σ => passAt tk σ
theorem passW {X : Cx} {W : WX} (tk : Takes X W) : ∀ σ, PassesAt (L2.CX X.prog X.w) X σ (WE W σ) := fun σ => passAt tk σ
theorem passF {X : Cx} : ∀ σ : St, PassesAt (L2.CX X.prog X.w) X σ E0 := fun _ _ _ _ _ _ _ h => by
  obtain ⟨_, _, _, _, _, _, _, _, _, _, _, _, z⟩ := h
  exact z.elim

def tCallZ (sp : Sp) (E : St → XK) (t : TA) : TE := fun σ H Q => t σ H fun vs H1 => sp vs H1 Q (E σ)
def methK (C : Addr) (sp : Sp) (E : XK) (m : Str) (t : TA) (σ : St) (x : V) (H : Hp) (Q : VK) : Prop := ∃ a dx fs, x = .ref a ∧ H a = some (.ins C dx fs) ∧ fs.lookup m = none ∧ t σ H fun vs H2 => sp (x :: vs) H2 Q E
def tMethZ (C : Addr) (m : Str) (sp : Sp) (E : St → XK) (ta : TE) (t : TA) : TE := fun σ H Q => ta σ H fun x H1 => methK C sp (E σ) m t σ x H1 Q
def makeK (C : Addr) (sp : Sp) (E : XK) (vs : List V) (H1 : Hp) (Q : VK) : Prop := ∀ x dx, H1 x = none → H1 dx = none → dx ≠ x →
  sp (.ref x :: vs) (upd (upd H1 dx (.own x)) x (.ins C dx [])) (fun v H2 => v = .non ∧ Q (.ref x) H2) E
def tMakeZ (C : Addr) (sp : Sp) (E : St → XK) (t : TA) : TE := fun σ H Q => t σ H fun vs H1 => makeK C sp (E σ) vs H1 Q
section
variable {X : Cx} {CX : CXT} {k : Nat} {ps : List Str} {sp : Sp} {E : St → XK} {x m C : Str} {p pos apos : Pos} {e o : Expr} {es : List Expr} {ta : TE} {t : TA}
theorem pe_fz (G : Con X.prog X.w X.K X.mg X.base CX k (x, none) ps sp) (hr : Room k X.A) (hg : Gl X x) (hm : X.mg x = some (.ref (He.ga X.K x))) (hx : ∀ σ, PassesAt CX X σ (E σ))
    (ha : PA X (e :: es) t) (hdb : (x == ("__debug__" : Str)) = false := by decide) (he : starEach (e :: es) X.env = (false, eval e X.env) :: starEach es X.env := by rfl) (hpl : (backTo pos (starEach es X.env)).any (·.1) = false := by rfl) :
    PE X (.Call (.Name x p) (e :: es) [] pos) (tCallZ sp E t) := by
  obtain ⟨⟨fd, F, b⟩, kp⟩ := G
  exact pe_callS (E := E) F hr hg hm kp b hx ha hdb he hpl
theorem pe_fz0 (G : Con X.prog X.w X.K X.mg X.base CX k (x, none) ps sp) (hr : Room k X.A) (hg : Gl X x) (hm : X.mg x = some (.ref (He.ga X.K x))) (hx : ∀ σ, PassesAt CX X σ (E σ))
    (hdb : (x == ("__debug__" : Str)) = false := by decide) : PE X (.Call (.Name x p) [] [] pos) (tCallZ sp E tNil) := by
  obtain ⟨⟨fd, F, b⟩, kp⟩ := G
  refine ⟨fun pins s σ H Q I h => ?_⟩
  refine wpAny_Call_Name_kw (ld_glob I hg hm ?_ hdb)
  exact PySem.W.callWith_K0 I.kIn kp (run_fnS (us := []) (E := E) F hr b (hx σ) I .nil h)
theorem pe_mz {pl : Sem Bool} (G : Con X.prog X.w X.K X.mg X.base CX k (C, some m) ps sp) (hr : Room k X.A) (c : Cls X.K (He.ga X.K C)) (hm : Meth X.K (He.ga X.K C) m (He.ma X.K (He.ga X.K C) m)) (hx : ∀ σ, PassesAt CX X σ (E σ))
    (he : PE X o ta) (ha : PA X (e :: es) t)
    (hst : starEach (e :: es) X.env = (false, eval e X.env) :: starEach es X.env := by rfl) (hpl : (backTo pos (starEach es X.env)).any (·.1) = false := by rfl)
    (ht : eval (.Call (.Attribute o m apos) (e :: es) [] pos) X.env = (do
      let ov ← eval o X.env
      standAt apos.atName
      let (f, first) ← holding [ov] (getMethod ov m pl)
      callWith pos f first (backTo pos (starEach (e :: es) X.env)) (backToKw pos (keywordEach [] X.env))) := by rfl) :
    PE X (.Call (.Attribute o m apos) (e :: es) [] pos) (tMethZ (He.ga X.K C) m sp E ta t) := by
  obtain ⟨⟨fd, F, b⟩, kp⟩ := G
  refine ⟨fun pins s σ H Q I h => ?_⟩
  refine PySem.W.methodCall_KW (pl := pl) (thn (he.run pins s σ H _ I h) fun u s1 ⟨x, H1, I1, rx, a, dx, fs, ex, ea, l, q⟩ => ?_) ht
  subst ex
  obtain rfl : u = Value.ref a := rx
  refine getmeth_ok I1 ea c hm l ?_
  refine PySem.W.callWith_K (first := [.ref a]) (h₀ := X.base) I.ok.mod.kin hm.kp (thn (ha.run pos pins s1 σ H1 _ I1 q) fun us s2 ⟨vs, H2, I2, r, q2⟩ => ⟨I2.kIn, ?_⟩) hst hpl
  exact run_fnS (us := .ref a :: us) (vs := .ref a :: vs) (E := E) F hr b (hx σ) I2 (.cons rfl r) q2
theorem pe_mz0 {pl : Sem Bool} (G : Con X.prog X.w X.K X.mg X.base CX k (C, some m) ps sp) (hr : Room k X.A) (c : Cls X.K (He.ga X.K C)) (hm : Meth X.K (He.ga X.K C) m (He.ma X.K (He.ga X.K C) m)) (hx : ∀ σ, PassesAt CX X σ (E σ))
    (he : PE X o ta)
    (ht : eval (.Call (.Attribute o m apos) [] [] pos) X.env = (do
      let ov ← eval o X.env
      standAt apos.atName
      let (f, first) ← holding [ov] (getMethod ov m pl)
      callWith pos f first (backTo pos (starEach [] X.env)) (backToKw pos (keywordEach [] X.env))) := by rfl) :
    PE X (.Call (.Attribute o m apos) [] [] pos) (tMethZ (He.ga X.K C) m sp E ta tNil) := by
  obtain ⟨⟨fd, F, b⟩, kp⟩ := G
  refine ⟨fun pins s σ H Q I h => ?_⟩
  refine PySem.W.methodCall_KW (pl := pl) (thn (he.run pins s σ H _ I h) fun u s1 ⟨x, H1, I1, rx, a, dx, fs, ex, ea, l, q⟩ => ?_) ht
  subst ex
  obtain rfl : u = Value.ref a := rx
  refine getmeth_ok I1 ea c hm l ?_
  exact PySem.W.callWith_K0 (first := [.ref a]) I1.kIn hm.kp (run_fnS (us := [.ref a]) (vs := [.ref a]) (E := E) F hr b (hx σ) I1 (.cons rfl .nil) q)
theorem pe_kz (G : Con X.prog X.w X.K X.mg X.base CX k (C, some "__init__") ps sp) (M : Mk X.K (He.ga X.K C) (He.ma X.K (He.ga X.K C) "__init__")) (hr : Room (k + 1) X.A) (hg : Gl X C) (hm : X.mg C = some (.ref (He.ga X.K C))) (hx : ∀ σ, PassesAt CX X σ (E σ))
    (ha : PA X (e :: es) t) (hdb : (C == ("__debug__" : Str)) = false := by decide) (he : starEach (e :: es) X.env = (false, eval e X.env) :: starEach es X.env := by rfl) (hpl : (backTo pos (starEach es X.env)).any (·.1) = false := by rfl) :
    PE X (.Call (.Name C p) (e :: es) [] pos) (tMakeZ (He.ga X.K C) sp E t) := by
  obtain ⟨⟨fd, F, b⟩, kp⟩ := G
  refine ⟨fun pins s σ H Q I h => ?_⟩
  refine wpAny_Call_Name_kw (ld_glob I hg hm ?_ hdb)
  refine PySem.W.callWith_K (h₀ := X.base) I.ok.mod.kin M.kp (thn (ha.run pos pins s σ H _ I h) fun us s1 ⟨vs, H1, I1, r, q⟩ => ⟨I1.kIn, ?_⟩) he hpl
  have hq := q (s1.heap.objs.size + 1) s1.heap.objs.size (I1.hok.fresh (Nat.le_succ _)) (I1.hok.fresh (Nat.le_refl _)) (Nat.ne_of_lt (Nat.lt_succ_self _))
  have I2 := Inv.made (C := He.ga X.K C) I1
  have r2 : Vals (V.ref (s1.heap.objs.size + 1) :: vs) (Value.ref (s1.heap.objs.size + 1) :: us) := .cons rfl r
  have hl : (Value.ref (s1.heap.objs.size + 1) :: us).length = ps.length := by
    have e := r2.length
    rw [F.len _ _ _ _ hq] at e
    exact e.symm
  have bb := b _ (Value.ref (s1.heap.objs.size + 1) :: us) I2.kIn (by rw [List.append_nil]; exact hl)
  rw [List.append_nil] at bb
  refine wpAny_call (make_map (f := He.ma X.K (He.ga X.K C) "__init__") I1.kIn M.makes M.init (beq_iff_eq.mp M.fn) (codeAny_mono (F.run _ X.stack _ _ ⟨Value.ref (s1.heap.objs.size + 1) :: us, []⟩ (Value.ref (s1.heap.objs.size + 1) :: us) _ _ (E σ) (hr.make (He.ga X.K C) us [])
    (I2.env0.make (He.ga X.K C) us []) bb r2 hq) fun r s' hq' => ?_))
  cases r with
  | error e => exact hx σ pins _ _ e s' I2 hq'
  | ok fl =>
    cases fl with
    | ret u =>
      obtain ⟨v, H', I3, rv, ev, q3⟩ := I2.after hq'
      subst ev
      exact ⟨rv, ⟨V.ref (s1.heap.objs.size + 1), H', I3, rfl, q3⟩⟩
    | next => exact False.elim hq'
    | brk => exact False.elim hq'
    | cont => exact False.elim hq'
end

/-! ### fields by a class's own record -/
structure FldOk {F : Type} (fl : F → List (Str × V)) (f : Str) (get : F → V) (put : V → F → F) : Prop where
  get : ∀ D, (fl D).lookup f = some (get D)
  put : ∀ v D, putF f v (fl D) = fl (put v D)
  few : ∀ D, (fl D).length < 1000
def fldK {F : Type} (C : Addr) (fl : F → List (Str × V)) (get : F → V) (x : V) (H : Hp) (Q : VK) : Prop := ∃ a dx D, x = .ref a ∧ H a = some (.ins C dx (fl D)) ∧ Q (get D) H
def tFldZ {F : Type} (C : Addr) (fl : F → List (Str × V)) (get : F → V) (ta : TE) : TE := fun σ H Q => ta σ H fun x H1 => fldK C fl get x H1 Q
def putKK {F : Type} (C : Addr) (fl : F → List (Str × V)) (put : V → F → F) (x y : V) (H : Hp) (Q : Hp → Prop) : Prop := ∃ a dx D, x = .ref a ∧ H a = some (.ins C dx (fl D)) ∧ Q (upd H a (.ins C dx (fl (put y D))))
def sFldZ {F : Type} (C : Addr) (fl : F → List (Str × V)) (put : V → F → F) (ta tv : TE) : TS := fun D σ H => tv σ H fun y H1 => ta σ H1 fun x H2 => putKK C fl put x y H2 (D.nx σ)
def augK {F : Type} (C : Addr) (fl : F → List (Str × V)) (get : F → V) (put : V → F → F) (tv : TE) (rd : V → V → Hp → VK → Prop) (σ : St) (x : V) (H : Hp) (Q : Hp → Prop) : Prop := ∃ a dx D, x = .ref a ∧ H a = some (.ins C dx (fl D)) ∧
  tv σ H fun y H2 => rd (get D) y H2 fun z H3 => ∃ dx' D', H3 a = some (.ins C dx' (fl D')) ∧ Q (upd H3 a (.ins C dx' (fl (put z D'))))
def sFldAugZ {F : Type} (C : Addr) (fl : F → List (Str × V)) (get : F → V) (put : V → F → F) (rd : V → V → Hp → VK → Prop) (ta tv : TE) : TS := fun D σ H => ta σ H fun x H1 => augK C fl get put tv rd σ x H1 (D.nx σ)
section
variable {X : Cx} {F : Type} {C : Addr} {fl : F → List (Str × V)} {f : Str} {get : F → V} {put : V → F → F} {o e value : Expr} {pos pos' tpos : Pos} {ta tv : TE}
theorem pe_fldz (c : Cls X.K C) (n : NoAttr X.K C f) (ok : FldOk fl f get put) (he : PE X e ta) (hb : attributeBase e f X.env (eval e X.env) = eval e X.env := by rfl) : PE X (.Attribute e f pos) (tFldZ C fl get ta) := by
  refine ⟨fun pins s σ H Q I h => ?_⟩
  refine attr_of hb (thn (he.run pins s σ H _ I h) fun u s1 ⟨x, H1, I1, rx, a, dx, D, ex, ea, q⟩ => ?_)
  subst ex
  obtain rfl : u = Value.ref a := rx
  exact getattr_ok I1 ea c n (ok.get D) fun u' s2 I2 ru => ⟨_, H1, I2, ru, q⟩
theorem ps_fldz (c : Cls X.K C) (n : NoAttr X.K C f) (ok : FldOk fl f get put) (ha : PE X o ta) (hv : PE X value tv) (hs : swapsWith value (some (.Attribute o f pos')) pos.line X.env = pure false := by rfl) : PS X (.Assign [.Attribute o f pos'] value pos) (sFldZ C fl put ta tv) := by
  refine ⟨fun pins s σ H D I h => ?_⟩
  refine plainObj_wpAny_Assign_Attribute (thn (hv.run pins s σ H _ I h) fun u s1 ⟨y, H1, I1, ry, q⟩ => thn (ha.run pins s1 σ H1 _ I1 q) fun ov s2 ⟨x, H2, I2, rx, a, dx, D', ex, ea, q2⟩ => ?_) hs
  subst ex
  obtain rfl : ov = Value.ref a := rx
  refine setattr_ok I2 ea c n (ok.few D') ry fun s3 I3 => ⟨σ, _, I3, ?_⟩
  rw [ok.put]
  exact q2
theorem ps_fldaugz {op : Operator} {rd : V → V → Hp → VK → Prop} (c : Cls X.K C) (n : NoAttr X.K C f) (ok : FldOk fl f get put) (ha : PE X o ta) (hv : PE X value tv) (hop : InOp X op rd) : PS X (.AugAssign (.Attribute o f tpos) op value pos) (sFldAugZ C fl get put rd ta tv) := by
  refine ⟨fun pins s σ H D I h => ?_⟩
  refine wpAny_AugAssign_AttributeAny (thn (ha.run pins s σ H _ I h) fun ov s1 ⟨x, H1, I1, rx, a, dx, D', ex, ea, q⟩ => ?_)
  subst ex
  obtain rfl : ov = Value.ref a := rx
  refine getattr_ok I1 ea c n (ok.get D') fun u s2 I2 ru => thn (hv.run pins s2 σ H1 _ I2 q) fun w3 s3 ⟨y, H2, I3, ry, q3⟩ => thn (hop pins s3 σ H2 _ y u w3 _ I3 ru ry q3) fun w4 s4 ⟨z, H3, I4, rz, dx', D2, ea', q4⟩ => ?_
  refine setattr_ok I4 ea' c n (ok.few D2) rz fun s5 I5 => ⟨σ, _, I5, ?_⟩
  rw [ok.put]
  exact q4
end

/-- in __init__: the attributes come one by one -/
def fldIK (C : Addr) (f : Str) (x : V) (H : Hp) (Q : VK) : Prop := ∃ a dx fs v, x = .ref a ∧ H a = some (.ins C dx fs) ∧ fs.lookup f = some v ∧ Q v H
def tFldI (C : Addr) (f : Str) (ta : TE) : TE := fun σ H Q => ta σ H fun x H1 => fldIK C f x H1 Q
theorem pe_fldI {X : Cx} {C : Addr} {f : Str} {e : Expr} {pos : Pos} {ta : TE} (c : Cls X.K C) (n : NoAttr X.K C f) (he : PE X e ta) (hb : attributeBase e f X.env (eval e X.env) = eval e X.env := by rfl) : PE X (.Attribute e f pos) (tFldI C f ta) := by
  refine ⟨fun pins s σ H Q I h => ?_⟩
  refine attr_of hb (thn (he.run pins s σ H _ I h) fun u s1 ⟨x, H1, I1, rx, a, dx, fs, v, ex, ea, l, q⟩ => ?_)
  subst ex
  obtain rfl : u = Value.ref a := rx
  exact getattr_ok I1 ea c n l fun u' s2 I2 ru => ⟨_, H1, I2, ru, q⟩
def initK (C : Addr) (f : Str) (x y : V) (H : Hp) (Q : Hp → Prop) : Prop := ∃ a dx fs, x = .ref a ∧ H a = some (.ins C dx fs) ∧ fs.length < 1000 ∧ Q (upd H a (.ins C dx (putF f y fs)))
def sFldI (C : Addr) (f : Str) (ta tv : TE) : TS := fun D σ H => tv σ H fun y H1 => ta σ H1 fun x H2 => initK C f x y H2 (D.nx σ)
section
variable {X : Cx} {C : Addr} {f : Str} {o value : Expr} {pos pos' : Pos} {ta tv : TE}
theorem ps_fldi (c : Cls X.K C) (n : NoAttr X.K C f) (ha : PE X o ta) (hv : PE X value tv) (hs : swapsWith value (some (.Attribute o f pos')) pos.line X.env = pure false := by rfl) : PS X (.Assign [.Attribute o f pos'] value pos) (sFldI C f ta tv) := by
  refine ⟨fun pins s σ H D I h => ?_⟩
  refine plainObj_wpAny_Assign_Attribute (thn (hv.run pins s σ H _ I h) fun u s1 ⟨y, H1, I1, ry, q⟩ => thn (ha.run pins s1 σ H1 _ I1 q) fun ov s2 ⟨x, H2, I2, rx, a, dx, fs, ex, ea, l, q2⟩ => ?_) hs
  subst ex
  obtain rfl : ov = Value.ref a := rx
  exact setattr_ok I2 ea c n l ry fun s3 I3 => ⟨σ, _, I3, q2⟩
end
theorem few_a {α : Type} {fs : List α} (h : fs.length + 0 < 1000) : fs.length < 1000 := h
theorem few_s {f : Str} {v : V} {fs : List (Str × V)} {k : Nat} (h : fs.length + (k + 1) < 1000) : (putF f v fs).length + k < 1000 := by
  have := length_putF f v fs
  omega
theorem few_z {α : Type} {k : Nat} (h : k < 1000) : ([] : List α).length + k < 1000 := by rw [List.length_nil, Nat.zero_add]; exact h

/-! ### dict.update(dict); a list's item, op= -/
def rDUpd : V → List V → Hp → VK → Prop := fun x vs H Q => ∃ (a b : Addr) (kvs more : List (Key × V)), x = .ref a ∧ vs = [.ref b] ∧ H a = some (.dK kvs) ∧ H b = some (.dK more) ∧ a ≠ b ∧ kvs.length + more.length ≤ sizeLine ∧ Q .non (upd H a (.dK (mergeK kvs more)))
theorem mt_dupd {X : Cx} : MtR X "dict.update" rDUpd := by
  intro pins s σ H x vs v us Q I rx rv h
  obtain ⟨a, b, kvs, more, ex, ev, ea, eb, hab, hz, q⟩ := h
  subst ex
  subst ev
  obtain rfl : v = Value.ref a := rx
  obtain ⟨u, rfl, ru⟩ := rv.one
  obtain rfl : u = Value.ref b := ru
  obtain ⟨z, hd, vs1, rel, dd⟩ := dk_of I.hok ea
  obtain ⟨z2, hd2, vs2, rel2, dd2⟩ := dk_of I.hok eb
  refine call_meetsIn PySem.F.slot_dict_update dd.typeIs PySem.F.entry_dict_update (PySem.F.args_dict_update_2 _ _) (meets_dict_update (mixKind X.prog X.w) a b hab hd2) ⟨vs1, vs2, dd, dd2, by rw [← rel.length, ← rel2.length]; exact hz, fun h' dd' _ hs => ?_⟩
  have he : ∃ q, h'.get? a = some q := let ⟨q, _, _, hq, _⟩ := dd'; ⟨q, hq⟩
  exact ⟨.non, _, d_write (t' := s.toks) I (by rw [ea]; exact True.intro) hs he (dk_new (Nat.le_trans (length_mergeK _ _) hz) hd (rel2.merge rel) dd'), rfl, q⟩
theorem get_list {X : Cx} : PGet X (rIxL X.K) := by
  intro pins s σ H x y v u Q I rx ry h
  obtain ⟨p, xs, i, z, rfl, rfl, hq, he, q⟩ := h
  cases rx
  obtain ⟨t, rfl⟩ := ry
  obtain ⟨its, r, pl, hz⟩ := I.list hq
  obtain ⟨j, h1, h2, h3, h4, h5⟩ := atI_get he
  obtain ⟨w, ew, rw'⟩ := r.get h2
  have hl := r.length
  have hn := line63
  have fin : EP X pins σ Q w s := ⟨z, H, I, rw', q⟩
  by_cases h0 : 0 ≤ i
  · have hj : i.toNat = j := by
      rw [seqIndex_of h0 h5] at h1
      exact Option.some.inj h1
    exact wpAny_getItem_list pl.isList h0 (by omega) (by rw [hj]; simpa using ew) fin
  · have hj : (i + (its.toArray.size : Int)).toNat = j := by
      rw [seqIndex_neg (by omega) h4] at h1
      rw [List.size_toArray, ← hl]
      exact Option.some.inj h1
    exact wpAny_getItem_list_neg pl.isList (by omega) (by rw [List.size_toArray] <;> omega) (by omega) (by rw [hj]; simpa using ew) fin

/-! ### try, named; isinstance of the held exception -/
def tTry (K : PySem.W.Frag) (c : Value) (tb : WX → TS) (ts : Addr → Value → Option Addr → TS) (Wout : WX) : TS := fun D σ H => tb (wOnly K c ts Wout D) D σ H
def tTryAs (K : PySem.W.Frag) (c : Value) (i : Nat) (tb : WX → TS) (ts : Addr → Value → Option Addr → TS) (Wout : WX) : TS := fun D σ H => tb (wAs K c i ts Wout D) D σ H
def rIsZ (K : PySem.W.Frag) (a : Addr) (cls : Value) (d : Option Addr) : List V → Hp → VK → Prop := fun xs H Q => ∃ D, cls = .ref D ∧ d = none ∧ ExcC K D ∧ rIsE K D a xs H Q
theorem call_isZ {X : Cx} {a : Addr} {oe : Obj} {cls : Value} {d : Option Addr} {pn : List (Addr × Obj)} (hz : Zc cls d oe) (hf : ∃ vs, oe.data = .fields vs) : CallR (X.suite a ((a, oe) :: pn)) (.builtin "isinstance") (rIsZ X.K a cls d) := by
  intro pins s σ H xs us Q I r h
  obtain ⟨D, e1, e2, C, h⟩ := h
  subst e1 e2
  exact call_isE C hz hf pins s σ H xs us Q I r h
/-- raise C('..') -/
def tRaiseZ (W : WX) (cls : Value) : TS := fun _ σ H => W cls none σ H
end
/-! Q1 -/
section
open PySem PySem.Spec PyProof.Rows

def blK (x : V) (H : Hp) (Q : Bool → Hp → Prop) : Prop := ∃ k, x = .bl k ∧ Q k H
def andK (b : Bool) (u : TT) (σ : St) (H : Hp) (Q : Bool → Hp → Prop) : Prop := if b = true then u σ H Q else Q false H
def orK (b : Bool) (u : TT) (σ : St) (H : Hp) (Q : Bool → Hp → Prop) : Prop := if b = true then Q true H else u σ H Q
def ifK (b : Bool) (A B : Prop) : Prop := if b = true then A else B
theorem if_dec {p : Prop} [Decidable p] {A B : Prop} (h1 : p → A) (h2 : ¬p → B) : ifK (decide p) A B := by
  unfold ifK
  by_cases h : p
  · rw [decide_eq_true h, if_pos rfl]; exact h1 h
  · rw [decide_eq_false h, if_neg Bool.false_ne_true]; exact h2 h
theorem if_not {p : Prop} [Decidable p] {A B : Prop} (h1 : ¬p → A) (h2 : p → B) : ifK (!decide p) A B := by
  unfold ifK
  by_cases h : p
  · rw [decide_eq_true h]; exact iteF (h2 h)
  · rw [decide_eq_false h]; exact iteT (h1 h)
theorem if_bool {b : Bool} {A B : Prop} (h1 : b = true → A) (h2 : b = false → B) : ifK b A B := by
  unfold ifK
  cases b with
  | true => exact iteT (h1 rfl)
  | false => exact iteF (h2 rfl)
theorem if_ft {b : Bool} {A B : Prop} (h : B) (h1 : b = true → B → A) : ifK b A B := if_bool (fun e => h1 e h) (fun _ => h)
theorem if_Fr {A B : Prop} (h : ifK false A B) : B := by
  unfold ifK at h
  rwa [if_neg Bool.false_ne_true] at h
theorem if_T {A B : Prop} (h : A) : ifK true A B := iteT h
theorem if_F {A B : Prop} (h : B) : ifK false A B := iteF h
theorem if_nT {A B : Prop} (h : B) : ifK (!true) A B := iteF h
theorem if_nF {A B : Prop} (h : A) : ifK (!false) A B := iteT h
theorem if_to {b c : Bool} {A B : Prop} (e : b = c) (h : ifK c A B) : ifK b A B := e ▸ h

section
variable {σ : St} {H : Hp} {D : Ends} {t u : TS} {te ta tb tc tv : TE} {c c' : TT} {Q : VK} {g : TG} {gs : TGs} {v x y z : V} {i j : Nat} {tr : TA} {K : PySem.W.Frag}
/-! ### statements -/
theorem g_seq (h : t { D with nx := u D } σ H) : tSeq t u D σ H := h
/-- a cut: what holds between two statements -/
theorem g_seqH (I : St → Hp → Prop) (h2 : ∀ σ H, I σ H → u D σ H) (h1 : ∀ N : St → Hp → Prop, (∀ σ H, I σ H → N σ H) → t { D with nx := N } σ H) : tSeq t u D σ H := h1 (u D) h2
theorem g_next (h : D.nx σ H) : tNext D σ H := h
theorem g_brk (h : D.bk σ H) : tBreak D σ H := h
theorem g_cont (h : D.ct σ H) : tCont D σ H := h
theorem g_asg (h : te σ H fun x H1 => g x σ H1 D.nx) : tAsg te g D σ H := h
theorem g_drop (h : te σ H fun _ H1 => D.nx σ H1) : tDrop te D σ H := h
theorem g_ret (h : te σ H D.rt) : tRet te D σ H := h
theorem g_retN (h : D.rt .non H) : tRetN D σ H := h
theorem g_ifs (h : c σ H fun b H1 => ifK b (t D σ H1) (u D σ H1)) : tIfS c t u D σ H := h
theorem g_raise {W : WX} {cls : Value} (h : W cls none σ H) : tRaiseZ W cls D σ H := h
theorem g_try {cc : Value} {tb : WX → TS} {ts : Addr → Value → Option Addr → TS} {Wout : WX} (h : tb (wOnly K cc ts Wout D) D σ H) : tTry K cc tb ts Wout D σ H := h
theorem g_tryAs {cc : Value} {tb : WX → TS} {ts : Addr → Value → Option Addr → TS} {Wout : WX} (h : tb (wAs K cc i ts Wout D) D σ H) : tTryAs K cc i tb ts Wout D σ H := h
theorem g_sfld {f : Str} (h : tv σ H fun y H1 => ta σ H1 fun x H2 => ∃ a C dx fs, x = .ref a ∧ H2 a = some (.ins C dx fs) ∧ Cls K C ∧ NoAttr K C f ∧ fs.length < 1000 ∧ D.nx σ (upd H2 a (.ins C dx (putF f y fs)))) : sFld K ta tv f D σ H := h
theorem g_sfldi {C : Addr} {f : Str} (h : tv σ H fun y H1 => ta σ H1 fun x H2 => initK C f x y H2 (D.nx σ)) : sFldI C f ta tv D σ H := h
theorem g_initK {C a dx : Addr} {f : Str} {fs : List (Str × V)} {R : Hp → Prop} (e : H a = some (.ins C dx fs)) (l : fs.length < 1000) (q : R (upd H a (.ins C dx (putF f y fs)))) : initK C f (.ref a) y H R := ⟨a, dx, fs, rfl, e, l, q⟩
theorem g_sfldz {F : Type} {C : Addr} {fl : F → List (Str × V)} {put : V → F → F} (h : tv σ H fun y H1 => ta σ H1 fun x H2 => putKK C fl put x y H2 (D.nx σ)) : sFldZ C fl put ta tv D σ H := h
theorem g_putKK {F : Type} {C a dx : Addr} {fl : F → List (Str × V)} {put : V → F → F} {E : F} {R : Hp → Prop} (e : H a = some (.ins C dx (fl E))) (q : R (upd H a (.ins C dx (fl (put y E))))) : putKK C fl put (.ref a) y H R := ⟨a, dx, E, rfl, e, q⟩
theorem g_augz {F : Type} {C : Addr} {fl : F → List (Str × V)} {get : F → V} {put : V → F → F} {rd : V → V → Hp → VK → Prop} (h : ta σ H fun x H1 => augK C fl get put tv rd σ x H1 (D.nx σ)) : sFldAugZ C fl get put rd ta tv D σ H := h
def augE {F : Type} (C a : Addr) (fl : F → List (Str × V)) (put : V → F → F) (z : V) (H3 : Hp) (R : Hp → Prop) : Prop := ∃ dx' E', H3 a = some (.ins C dx' (fl E')) ∧ R (upd H3 a (.ins C dx' (fl (put z E'))))
theorem g_augE {F : Type} {C a dx : Addr} {fl : F → List (Str × V)} {put : V → F → F} {E : F} {R : Hp → Prop} (e : H a = some (.ins C dx (fl E))) (q : R (upd H a (.ins C dx (fl (put z E))))) : augE C a fl put z H R := ⟨dx, E, e, q⟩
theorem g_augK {F : Type} {C a dx : Addr} {fl : F → List (Str × V)} {get : F → V} {put : V → F → F} {rd : V → V → Hp → VK → Prop} {E : F} {R : Hp → Prop} (e : H a = some (.ins C dx (fl E)))
    (q : tv σ H fun y H2 => rd (get E) y H2 fun z H3 => augE C a fl put z H3 R) : augK C fl get put tv rd σ (.ref a) H R := ⟨a, dx, E, rfl, e, q⟩
def dputE (a : Addr) (y z : V) (H4 : Hp) (R : Hp → Prop) : Prop := ∃ H5, DPut H4 a y z H5 ∧ R H5
def dputK (x y v : V) (H3 : Hp) (R : Hp → Prop) : Prop := ∃ a H4, x = .ref a ∧ DPut H3 a y v H4 ∧ R H4
def daugK (x y : V) (tv : TE) (rd : V → V → Hp → VK → Prop) (σ : St) (H2 : Hp) (R : Hp → Prop) : Prop := ∃ a v, x = .ref a ∧ DGet H2 a y (some v) ∧ tv σ H2 fun w H3 => rd v w H3 fun z H4 => dputE a y z H4 R
theorem g_dput {td ty : TE} (h : tv σ H fun v H1 => td σ H1 fun x H2 => ty σ H2 fun y H3 => dputK x y v H3 (D.nx σ)) : sDPut td ty tv D σ H := h
theorem g_dputS {a : Addr} {kvs kvs' : List (Key × V)} {k : Str} {R : Hp → Prop} (e : H a = some (.dK kvs)) (p : putK kvs (Sum.inr k) v = kvs') (l : kvs.length < 100000) (q : R (upd H a (.dK kvs'))) : dputK (.ref a) (.str k) v H R := by
  subst p
  exact ⟨a, _, rfl, .inl ⟨kvs, Sum.inr k, e, rfl, Nat.lt_trans l (by decide), rfl⟩, q⟩
theorem g_dputI {a : Addr} {kvs : List (Key × V)} {k : Int} {R : Hp → Prop} (e : H a = some (.dK kvs)) (l : kvs.length < 100000) (q : R (upd H a (.dK (putK kvs (Sum.inl k) v)))) : dputK (.ref a) (.int k) v H R :=
  ⟨a, _, rfl, .inl ⟨kvs, Sum.inl k, e, rfl, Nat.lt_trans l (by decide), rfl⟩, q⟩
theorem g_dputES {a : Addr} {kvs kvs' : List (Key × V)} {k : Str} {R : Hp → Prop} (e : H a = some (.dK kvs)) (p : putK kvs (Sum.inr k) v = kvs') (l : kvs.length < 100000) (q : R (upd H a (.dK kvs'))) : dputE a (.str k) v H R := by
  subst p
  exact ⟨_, .inl ⟨kvs, Sum.inr k, e, rfl, Nat.lt_trans l (by decide), rfl⟩, q⟩
theorem g_dputEI {a : Addr} {kvs : List (Key × V)} {k : Int} {R : Hp → Prop} (e : H a = some (.dK kvs)) (l : kvs.length < 100000) (q : R (upd H a (.dK (putK kvs (Sum.inl k) v)))) : dputE a (.int k) v H R :=
  ⟨_, .inl ⟨kvs, Sum.inl k, e, rfl, Nat.lt_trans l (by decide), rfl⟩, q⟩
theorem g_daug {td ty : TE} {rd : V → V → Hp → VK → Prop} (h : td σ H fun x H1 => ty σ H1 fun y H2 => daugK x y tv rd σ H2 (D.nx σ)) : sDAug td ty tv rd D σ H := h
theorem g_daugS {a : Addr} {kvs : List (Key × V)} {k : Str} {rd : V → V → Hp → VK → Prop} {R : Hp → Prop} (e : H a = some (.dK kvs)) (l : valV kvs (Sum.inr k) = some v) (q : tv σ H fun w H3 => rd v w H3 fun z H4 => dputE a (.str k) z H4 R) : daugK (.ref a) (.str k) tv rd σ H R :=
  ⟨a, v, rfl, .inl ⟨kvs, Sum.inr k, .inl e, rfl, l.symm⟩, q⟩
theorem g_daugI {a : Addr} {kvs : List (Key × V)} {k : Int} {rd : V → V → Hp → VK → Prop} {R : Hp → Prop} (e : H a = some (.dK kvs)) (l : valV kvs (Sum.inl k) = some v) (q : tv σ H fun w H3 => rd v w H3 fun z H4 => dputE a (.int k) z H4 R) : daugK (.ref a) (.int k) tv rd σ H R :=
  ⟨a, v, rfl, .inl ⟨kvs, Sum.inl k, .inl e, rfl, l.symm⟩, q⟩
theorem putK_h {r : List (Key × V)} {k : Key} {x : V} (h : valV r k = none) : putK ((k, x) :: r) k v = (k, v) :: r := by
  unfold putK
  rw [List.any_cons, decide_eq_true rfl, Bool.true_or, if_pos rfl, List.map_cons, if_pos rfl]
  congr 1
  have hn : (r.any fun kv => decide (kv.1 = k)) = false := by rw [valV_any, h]; rfl
  rw [List.any_eq_false] at hn
  conv => rhs; rw [← List.map_id r]
  refine List.map_congr_left fun p hp => ?_
  have := hn p hp
  rw [if_neg (by simpa using this)]
  rfl
theorem putK_c {r : List (Key × V)} {k j : Key} {x : V} (n : ¬ j = k) (h : (valV r k).isSome = true) : putK ((j, x) :: r) k v = (j, x) :: putK r k v := by
  have ha : (r.any fun kv => decide (kv.1 = k)) = true := by rw [valV_any, h]
  unfold putK
  rw [List.any_cons, decide_eq_false n, Bool.false_or, ha, if_pos rfl, if_pos rfl, List.map_cons, if_neg n]
theorem valV_h {r : List (Key × V)} {k : Key} {x : V} : valV ((k, x) :: r) k = some x := valV_pos rfl
theorem valV_c {r : List (Key × V)} {k j : Key} {x : V} (n : ¬ j = k) : valV ((j, x) :: r) k = valV r k := valV_neg (p := (j, x)) n
def dispK (p : Addr) (ps : List (V × V)) (H2 : Hp) (Q : VK) : Prop := H2 p = some (.dK []) ∧ ∃ kvs : List (Key × V), ps = kvs.map (fun kv => (kV kv.1, kv.2)) ∧ kvs.length ≤ 15 ∧ Q (.ref p) (upd H2 p (.dK (mergeK [] kvs)))
theorem g_disp {trs : List (TE × TE)} (h : ∀ p, H p = none → tPairs trs σ (upd H p (.dK [])) fun ps H2 => dispK p ps H2 Q) : tDisp trs σ H Q := h
theorem g_pnil {R : List (V × V) → Hp → Prop} (h : R [] H) : tPairs [] σ H R := h
theorem g_pcons {R : List (V × V) → Hp → Prop} {r : List (TE × TE)} (h : ta σ H fun x H1 => tb σ H1 fun y H2 => tPairs r σ H2 fun ps H3 => R ((x, y) :: ps) H3) : tPairs ((ta, tb) :: r) σ H R := h
theorem g_dispK {p : Addr} {ps : List (V × V)} (kvs : List (Key × V)) {kvs' : List (Key × V)} (e : H p = some (.dK [])) (ep : ps = kvs.map (fun kv => (kV kv.1, kv.2))) (l : kvs.length ≤ 15) (em : mergeK [] kvs = kvs') (q : Q (.ref p) (upd H p (.dK kvs'))) : dispK p ps H Q := by
  subst em
  exact ⟨e, kvs, ep, l, q⟩
theorem g_dnewK (h : ∀ p, H p = none → Q (.ref p) (upd H p (.dK []))) : tDNewK σ H Q := h
def dg2E (a : Addr) (y z : V) (H3 : Hp) (Q : VK) : Prop := ∃ o, DGet H3 a y o ∧ Q (o.getD z) H3
def dg2K (x : V) (ty tx : TE) (σ : St) (H1 : Hp) (Q : VK) : Prop := ∃ a, x = .ref a ∧ IsD H1 a ∧ ty σ H1 fun y H2 => tx σ H2 fun z H3 => dg2E a y z H3 Q
theorem g_dget2 {td ty tx : TE} (h : td σ H fun x H1 => dg2K x ty tx σ H1 Q) : tDGet2 td ty tx σ H Q := h
theorem g_dg2K {a : Addr} {kvs : List (Key × V)} {ty tx : TE} (e : H a = some (.dK kvs)) (h : ty σ H fun y H2 => tx σ H2 fun z H3 => dg2E a y z H3 Q) : dg2K (.ref a) ty tx σ H Q := ⟨a, rfl, .inl ⟨kvs, .inl e⟩, h⟩
theorem g_dg2EI {a : Addr} {kvs : List (Key × V)} {k : Int} (e : H a = some (.dK kvs)) (q : Q ((valV kvs (Sum.inl k)).getD z) H) : dg2E a (.int k) z H Q := ⟨_, .inl ⟨kvs, Sum.inl k, .inl e, rfl, rfl⟩, q⟩
theorem g_aug {ti : TIp} (e : σ[i]? = some (some x)) (h : te σ H fun y H1 => ti x y H1 fun z H2 => D.nx (σ.set i (some z)) H2) : tAug i te ti D σ H := ⟨x, e, h⟩
theorem g_augS {to ti : TE} {tget : V → V → Hp → VK → Prop} {tip : TIp} {tset : TSet} (h : to σ H fun o H1 => ti σ H1 fun i H2 => tget o i H2 fun x H3 => te σ H3 fun y H4 => tip x y H4 fun z H5 => tset o i z H5 fun H6 => D.nx σ H6) : tAugS to ti te tget tip tset D σ H := h
theorem g_ipI {f : Int → Int → Int} {a b : Int} (q : Q (.int (f a b)) H) : ipI f (.int a) (.int b) H Q := ⟨a, b, rfl, rfl, q⟩
theorem g_ipAdd {a b : Int} (q : Q (.int (a + b)) H) : ipI (fun i j => i + j) (.int a) (.int b) H Q := ⟨a, b, rfl, rfl, q⟩
theorem g_ipSub {a b : Int} (q : Q (.int (a - b)) H) : ipI (fun i j => i - j) (.int a) (.int b) H Q := ⟨a, b, rfl, rfl, q⟩
theorem lkp_hit {f : Str} {w : V} {fs : List (Str × V)} : (putF f w fs).lookup f = some w := by rw [lookup_putF, if_pos rfl]
theorem lkp_ne {f k : Str} {w u : V} {fs : List (Str × V)} (h : ¬ k = f) (e : fs.lookup k = some u) : (putF f w fs).lookup k = some u := by rw [lookup_putF, if_neg h]; exact e
/-! ### targets -/
theorem g_name {R : St → Hp → Prop} (h : R (σ.set i (some v)) H) : gName i v σ H R := h
theorem g_tup {n : Nat} {a : Addr} {xs : List V} {R : St → Hp → Prop} (e : H a = some (.tup xs)) (l : xs.length = n) (h : gs xs σ H R) : gTup K n gs (.ref a) σ H R := ⟨a, xs, rfl, Evl.st_of e, l, h⟩
theorem g_tupQ {n : Nat} {a : Addr} {xs : List V} {R : St → Hp → Prop} (e : SqT K H a xs) (l : xs.length = n) (h : gs xs σ H R) : gTup K n gs (.ref a) σ H R := ⟨a, xs, rfl, e, l, h⟩
theorem g_gcons {r : List V} {R : St → Hp → Prop} (h : g v σ H fun σ' H' => gs r σ' H' R) : gCons g gs (v :: r) σ H R := ⟨v, r, rfl, h⟩
theorem g_gnil {R : St → Hp → Prop} (h : R σ H) : gNil [] σ H R := ⟨rfl, h⟩
theorem g_gsub {to ti : TE} {s : TSet} {R : St → Hp → Prop} (h : to σ H fun o H1 => ti σ H1 fun i H2 => s o i v H2 fun H3 => R σ H3) : gSub to ti s v σ H R := h
theorem g_setL {p : Addr} {xs : List V} {k : Int} {m : Nat} {R : Hp → Prop} (e : H p = some (.lst xs)) (l : ixN xs.length k = some m) (q : R (upd H p (.lst (xs.set m v)))) : rSetL (.ref p) (.int k) v H R := ⟨p, xs, k, m, rfl, rfl, e, l, q⟩
/-! ### expressions -/
theorem g_var (e : σ[i]? = some (some v)) (q : Q v H) : tVar i σ H Q := ⟨v, e, q⟩
theorem g_c (q : Q v H) : tC v σ H Q := q
theorem g_op {r : R2} (h : ta σ H fun x H1 => tb σ H1 fun y H2 => r x y H2 Q) : tOp r ta tb σ H Q := h
theorem g_un {r : V → Hp → VK → Prop} (h : ta σ H fun x H1 => r x H1 Q) : tUn r ta σ H Q := h
theorem g_nil {R : List V → Hp → Prop} (q : R [] H) : tNil σ H R := q
theorem g_cons {R : List V → Hp → Prop} (h : ta σ H fun x H1 => tr σ H1 fun xs H2 => R (x :: xs) H2) : tCons ta tr σ H R := h
def tupK (xs : List V) (H1 : Hp) (Q : VK) : Prop := xs.length ≤ sizeLine ∧ ∀ p, H1 p = none → Q (.ref p) (upd H1 p (.tup xs))
def lstK (xs : List V) (H1 : Hp) (Q : VK) : Prop := xs.length ≤ sizeLine ∧ ∀ p, H1 p = none → Q (.ref p) (upd H1 p (.lst xs))
theorem g_tTup (h : tr σ H fun xs H1 => tupK xs H1 Q) : tTup tr σ H Q := h
theorem g_tLst (h : tr σ H fun xs H1 => lstK xs H1 Q) : tLst tr σ H Q := h
theorem g_tupK {xs : List V} (l : xs.length ≤ 100000) (h : ∀ p, H p = none → Q (.ref p) (upd H p (.tup xs))) : tupK xs H Q := ⟨Evl.sz_of l, h⟩
theorem g_lstK {xs : List V} (l : xs.length ≤ 100000) (h : ∀ p, H p = none → Q (.ref p) (upd H p (.lst xs))) : lstK xs H Q := ⟨Evl.sz_of l, h⟩
theorem g_fldz {F : Type} {C : Addr} {fl : F → List (Str × V)} {get : F → V} (h : ta σ H fun x H1 => fldK C fl get x H1 Q) : tFldZ C fl get ta σ H Q := h
theorem g_fldK {F : Type} {C a dx : Addr} {fl : F → List (Str × V)} {get : F → V} {E : F} (e : H a = some (.ins C dx (fl E))) (q : Q (get E) H) : fldK C fl get (.ref a) H Q := ⟨a, dx, E, rfl, e, q⟩
theorem g_fldI {C : Addr} {f : Str} (h : ta σ H fun x H1 => fldIK C f x H1 Q) : tFldI C f ta σ H Q := h
theorem g_fldIK {C a dx : Addr} {f : Str} {fs : List (Str × V)} {w : V} (e : H a = some (.ins C dx fs)) (l : fs.lookup f = some w) (q : Q w H) : fldIK C f (.ref a) H Q := ⟨a, dx, fs, w, rfl, e, l, q⟩
theorem g_cb {r : List V → Hp → VK → Prop} (h : tr σ H fun vs H1 => r vs H1 Q) : tCB r tr σ H Q := h
theorem g_callz {sp : Sp} {E : St → XK} (h : tr σ H fun vs H1 => sp vs H1 Q (E σ)) : tCallZ sp E tr σ H Q := h
theorem g_methz {C : Addr} {m : Str} {sp : Sp} {E : St → XK} (h : ta σ H fun x H1 => methK C sp (E σ) m tr σ x H1 Q) : tMethZ C m sp E ta tr σ H Q := h
theorem g_methK {C a dx : Addr} {m : Str} {sp : Sp} {E : XK} {fs : List (Str × V)} (e : H a = some (.ins C dx fs)) (l : fs.lookup m = none) (h : tr σ H fun vs H2 => sp (.ref a :: vs) H2 Q E) : methK C sp E m tr σ (.ref a) H Q := ⟨a, dx, fs, rfl, e, l, h⟩
theorem g_makez {C : Addr} {sp : Sp} {E : St → XK} (h : tr σ H fun vs H1 => makeK C sp (E σ) vs H1 Q) : tMakeZ C sp E tr σ H Q := h
def bmK (K : PySem.W.Frag) (T : String) (r : V → List V → Hp → VK → Prop) (tr : TA) (σ : St) (x : V) (H : Hp) (Q : VK) : Prop := tyV K T x H ∧ tr σ H fun xs H2 => r x xs H2 Q
theorem g_bm {T : String} {r : V → List V → Hp → VK → Prop} (h : ta σ H fun x H1 => bmK K T r tr σ x H1 Q) : tBM K T r ta tr σ H Q := h
theorem g_bmL {r : V → List V → Hp → VK → Prop} {p : Addr} {xs : List V} (e : H p = some (.lst xs)) (h : tr σ H fun ys H2 => r (.ref p) ys H2 Q) : bmK K "list" r tr σ (.ref p) H Q := ⟨.inl ⟨rfl, _, SqL.of e⟩, h⟩
theorem g_bmD {r : V → List V → Hp → VK → Prop} {p : Addr} {kvs : List (Key × V)} (e : H p = some (.dK kvs)) (h : tr σ H fun ys H2 => r (.ref p) ys H2 Q) : bmK K "dict" r tr σ (.ref p) H Q := ⟨.inr (.inr (.inl ⟨rfl, .inl ⟨_, e⟩⟩)), h⟩
def bm0K (K : PySem.W.Frag) (T : String) (r : V → List V → Hp → VK → Prop) (x : V) (H : Hp) (Q : VK) : Prop := tyV K T x H ∧ r x [] H Q
theorem g_bm0 {T : String} {r : V → List V → Hp → VK → Prop} (h : ta σ H fun x H1 => bm0K K T r x H1 Q) : tBM0 K T r ta σ H Q := h
theorem g_bm0L {r : V → List V → Hp → VK → Prop} {p : Addr} {xs : List V} (e : H p = some (.lst xs)) (h : r (.ref p) [] H Q) : bm0K K "list" r (.ref p) H Q := ⟨.inl ⟨rfl, _, SqL.of e⟩, h⟩
theorem g_append {l : Addr} {xs : List V} (e : H l = some (.lst xs)) (z : xs.length < sizeLine) (q : Q .non (upd H l (.lst (xs ++ [y])))) : rAppend (.ref l) [y] H Q := ⟨l, xs, y, rfl, rfl, e, z, q⟩
theorem g_dupd {a b : Addr} {kvs more : List (Key × V)} (ea : H a = some (.dK kvs)) (eb : H b = some (.dK more)) (n : a ≠ b) (z : kvs.length + more.length ≤ 1000) (q : Q .non (upd H a (.dK (mergeK kvs more)))) : rDUpd (.ref a) [.ref b] H Q :=
  ⟨a, b, kvs, more, rfl, rfl, ea, eb, n, Nat.le_trans z (by decide), q⟩
theorem g_dupdM {a b : Addr} {kvs more kvs' : List (Key × V)} (ea : H a = some (.dK kvs)) (eb : H b = some (.dK more)) (n : a ≠ b) (z : kvs.length + more.length ≤ 1000) (em : mergeK kvs more = kvs') (q : Q .non (upd H a (.dK kvs'))) : rDUpd (.ref a) [.ref b] H Q := by
  subst em
  exact g_dupd ea eb n z q
theorem v_isZ {D a A : Addr} {b : Bool} (C : ExcC K D) (k : PySem.W.kitOne K (.ref D) (.ref A) = some b) (q : Q (.bl b) H) : rIsZ K a (.ref D) none [.ref a, .ref A] H Q := ⟨D, rfl, rfl, C, .ref A, .ref A, b, rfl, fun u h => h, k, q⟩
theorem v_isZT {D a : Addr} {t : String} {b : Bool} (C : ExcC K D) (k : PySem.W.kitOne K (.ref D) (.type t) = some b) (q : Q (.bl b) H) : rIsZ K a (.ref D) none [.ref a, .ty t] H Q := ⟨D, rfl, rfl, C, .ty t, .type t, b, rfl, fun u h => h, k, q⟩
def dgetK (x y : V) (H : Hp) (Q : VK) : Prop := ∃ a v, x = .ref a ∧ DGet H a y (some v) ∧ Q v H
theorem g_dget {td ty : TE} (h : td σ H fun x H1 => ty σ H1 fun y H2 => dgetK x y H2 Q) : tDGet td ty σ H Q := h
theorem g_dgetS {a : Addr} {kvs : List (Key × V)} {k : Str} (e : H a = some (.dK kvs)) (l : valV kvs (Sum.inr k) = some v) (q : Q v H) : dgetK (.ref a) (.str k) H Q := ⟨a, v, rfl, .inl ⟨kvs, Sum.inr k, .inl e, rfl, l.symm⟩, q⟩
theorem g_dgetI {a : Addr} {kvs : List (Key × V)} {k : Int} (e : H a = some (.dK kvs)) (l : valV kvs (Sum.inl k) = some v) (q : Q v H) : dgetK (.ref a) (.int k) H Q := ⟨a, v, rfl, .inl ⟨kvs, Sum.inl k, .inl e, rfl, l.symm⟩, q⟩
theorem g_slice {r : V → Option Int → Option Int → Hp → VK → Prop} {tl th : TO} (h : te σ H fun x H1 => tl σ H1 fun l H2 => th σ H2 fun u H3 => r x l u H3 Q) : tSl r te tl th σ H Q := h
theorem g_ifx (h : c σ H fun b H1 => ifK b (ta σ H1 Q) (tb σ H1 Q)) : tIf c ta tb σ H Q := h
def andVK (x : V) (tb : TE) (σ : St) (H : Hp) (Q : VK) : Prop := ∃ b, x = .bl b ∧ ifK b (tb σ H Q) (Q (.bl false) H)
def orVK (x : V) (tb : TE) (σ : St) (H : Hp) (Q : VK) : Prop := ∃ b, x = .bl b ∧ ifK b (Q (.bl true) H) (tb σ H Q)
theorem g_andV (h : ta σ H fun x H1 => andVK x tb σ H1 Q) : tAndV ta tb σ H Q := h
theorem g_orV (h : ta σ H fun x H1 => orVK x tb σ H1 Q) : tOrV ta tb σ H Q := h
theorem g_andVK {b : Bool} (h : ifK b (tb σ H Q) (Q (.bl false) H)) : andVK (.bl b) tb σ H Q := ⟨b, rfl, h⟩
theorem g_orVK {b : Bool} (h : ifK b (Q (.bl true) H) (tb σ H Q)) : orVK (.bl b) tb σ H Q := ⟨b, rfl, h⟩
def notVK (x : V) (H : Hp) (Q : VK) : Prop := ∃ b, x = .bl b ∧ Q (.bl (!b)) H
theorem g_notV (h : ta σ H fun x H1 => notVK x H1 Q) : tNotV ta σ H Q := h
theorem g_notVK {b : Bool} (h : Q (.bl (!b)) H) : notVK (.bl b) H Q := ⟨b, rfl, h⟩
/-! ### tests -/
variable {R : Bool → Hp → Prop}
theorem g_test (h : te σ H fun x H1 => blK x H1 R) : tTest te σ H R := h
theorem g_tB (h : te σ H fun x H1 => blK x H1 R) : tB te σ H R := h
theorem g_blK {b : Bool} (q : R b H) : blK (.bl b) H R := ⟨b, rfl, q⟩
theorem g_and (h : c σ H fun b H1 => ifK b (c' σ H1 R) (R false H1)) : tAnd c c' σ H R := h
theorem g_or (h : c σ H fun b H1 => ifK b (R true H1) (c' σ H1 R)) : tOr c c' σ H R := h
theorem g_not (h : c σ H fun b H1 => R (!b) H1) : tNot c σ H R := h
def chK (z : V) (tc : TE) (r' : R2) (y : V) (σ : St) (H3 : Hp) (Q : VK) : Prop := ∃ k, z = .bl k ∧ ifK k (tc σ H3 fun w' H4 => r' y w' H4 Q) (Q (.bl false) H3)
theorem g_chain {r r' : R2} (h : ta σ H fun x H1 => tb σ H1 fun y H2 => r x y H2 fun z H3 => chK z tc r' y σ H3 Q) : tChain r r' ta tb tc σ H Q := h
theorem g_chK {r' : R2} {b : Bool} (h : ifK b (tc σ H fun w' H4 => r' y w' H4 Q) (Q (.bl false) H)) : chK (.bl b) tc r' y σ H Q := ⟨b, rfl, h⟩
/-! ### values -/
theorem v_addI {a b : Int} (q : Q (.int (a + b)) H) : rAddI (.int a) (.int b) H Q := ⟨a, b, rfl, rfl, q⟩
theorem v_subI {a b : Int} (q : Q (.int (a - b)) H) : rSubI (.int a) (.int b) H Q := ⟨a, b, rfl, rfl, q⟩
theorem v_mulR {a b : Int} (h : -(2 ^ 64) < b ∧ b < 2 ^ 64) (q : Q (.int (a * b)) H) : rMulI (.int a) (.int b) H Q := ⟨a, b, rfl, rfl, .inr h, q⟩
theorem v_mulL {a b : Int} (h : -(2 ^ 64) < a ∧ a < 2 ^ 64) (q : Q (.int (a * b)) H) : rMulI (.int a) (.int b) H Q := ⟨a, b, rfl, rfl, .inl h, q⟩
theorem v_fdvI {a b : Int} (h : 0 < b ∧ b < 2 ^ 62) (q : Q (.int (a / b)) H) : rFdvI (.int a) (.int b) H Q := ⟨a, b, rfl, rfl, wide_div (b := 62) h.1 (by omega) (by decide) (by decide), q⟩
theorem v_modI {a b : Int} (h : 0 < b) (q : Q (.int (a % b)) H) : rModI (.int a) (.int b) H Q := ⟨a, b, rfl, rfl, h, q⟩
theorem v_powI {a b : Int} (h : 0 ≤ b ∧ b ≤ 1000000 ∧ a.natAbs < 2 ^ 64) (q : Q (.int (a ^ b.toNat)) H) : rPowI (.int a) (.int b) H Q := ⟨a, b, rfl, rfl, h, q⟩
theorem v_negI {a : Int} (q : Q (.int (-a)) H) : rNegI (.int a) H Q := ⟨a, rfl, q⟩
theorem v_ltI {a b : Int} (q : Q (.bl (decide (a < b))) H) : rLtI (.int a) (.int b) H Q := ⟨a, b, rfl, rfl, q⟩
theorem v_leI {a b : Int} (q : Q (.bl (decide (a ≤ b))) H) : rLeI (.int a) (.int b) H Q := ⟨a, b, rfl, rfl, q⟩
theorem v_gtI {a b : Int} (q : Q (.bl (decide (b < a))) H) : rGtI (.int a) (.int b) H Q := ⟨a, b, rfl, rfl, q⟩
theorem v_geI {a b : Int} (q : Q (.bl (decide (b ≤ a))) H) : rGeI (.int a) (.int b) H Q := ⟨a, b, rfl, rfl, q⟩
theorem v_eqI {a b : Int} (q : Q (.bl (decide (a = b))) H) : rEq (.int a) (.int b) H Q := ⟨rfl, by simpa using q⟩
theorem v_neI {a b : Int} (q : Q (.bl (!decide (a = b))) H) : rNe (.int a) (.int b) H Q := ⟨rfl, by simpa using q⟩
theorem v_eqB {a b : Bool} (q : Q (.bl (decide (a = b))) H) : rEq (.bl a) (.bl b) H Q := ⟨rfl, by simpa using q⟩
theorem v_neB {a b : Bool} (q : Q (.bl (!decide (a = b))) H) : rNe (.bl a) (.bl b) H Q := ⟨rfl, by simpa using q⟩
theorem v_eqS {a b : Str} (q : Q (.bl (decide (a = b))) H) : rEq (.str a) (.str b) H Q := ⟨rfl, by simpa using q⟩
theorem v_neS {a b : Str} (q : Q (.bl (!decide (a = b))) H) : rNe (.str a) (.str b) H Q := ⟨rfl, by simpa using q⟩
theorem v_eqNI {b : Int} (q : Q (.bl false) H) : rEq .non (.int b) H Q := ⟨rfl, by simpa using q⟩
theorem v_eqIN {b : Int} (q : Q (.bl false) H) : rEq (.int b) .non H Q := ⟨rfl, by simpa using q⟩
theorem v_isN (q : Q (.bl true) H) : rIsNo .non .non H Q := ⟨rfl, by simpa using q⟩
theorem v_isNI {b : Int} (q : Q (.bl false) H) : rIsNo (.int b) .non H Q := ⟨rfl, by simpa using q⟩
theorem v_isNB {b : Bool} (q : Q (.bl false) H) : rIsNo (.bl b) .non H Q := ⟨rfl, by simpa using q⟩
theorem v_isNS {b : Str} (q : Q (.bl false) H) : rIsNo (.str b) .non H Q := ⟨rfl, by simpa using q⟩
theorem v_isNR {b : Addr} (q : Q (.bl false) H) : rIsNo (.ref b) .non H Q := ⟨rfl, by simpa using q⟩
theorem v_noN (q : Q (.bl false) H) : rNotNo .non .non H Q := ⟨rfl, by simpa using q⟩
theorem v_noNI {b : Int} (q : Q (.bl true) H) : rNotNo (.int b) .non H Q := ⟨rfl, by simpa using q⟩
theorem v_noNB {b : Bool} (q : Q (.bl true) H) : rNotNo (.bl b) .non H Q := ⟨rfl, by simpa using q⟩
theorem v_noNS {b : Str} (q : Q (.bl true) H) : rNotNo (.str b) .non H Q := ⟨rfl, by simpa using q⟩
theorem v_noNR {b : Addr} (q : Q (.bl true) H) : rNotNo (.ref b) .non H Q := ⟨rfl, by simpa using q⟩
theorem v_isB {a b : Bool} (q : Q (.bl (decide (a = b))) H) : rIsB (.bl a) (.bl b) H Q := ⟨a, b, rfl, rfl, q⟩
theorem v_notB {a b : Bool} (q : Q (.bl (!decide (a = b))) H) : rNotB (.bl a) (.bl b) H Q := ⟨a, b, rfl, rfl, q⟩
theorem v_rAdd {a b : Int} (q : Q (.int (a + b)) H) : rAdd (.int a) (.int b) H Q := ⟨a, b, rfl, rfl, q⟩
theorem v_rSub {a b : Int} (q : Q (.int (a - b)) H) : rSub (.int a) (.int b) H Q := ⟨a, b, rfl, rfl, q⟩
theorem v_ixL {p : Addr} {xs : List V} {n : Int} (e : H p = some (.lst xs)) (l : atI xs n = some v) (q : Q v H) : rIxL K (.ref p) (.int n) H Q := ⟨p, xs, n, v, rfl, rfl, SqL.of e, l, q⟩
theorem v_ixT {p : Addr} {xs : List V} {n : Int} (e : H p = some (.tup xs)) (l : atI xs n = some v) (q : Q v H) : rIxT K (.ref p) (.int n) H Q := ⟨p, xs, n, v, rfl, rfl, Evl.st_of e, l, q⟩
theorem v_cat {l b : Addr} {xs zs : List V} (e1 : H l = some (.lst xs)) (e2 : H b = some (.lst zs)) (z : xs.length + zs.length ≤ 100000) (q : ∀ p, H p = none → Q (.ref p) (upd H p (.lst (xs ++ zs)))) : rCat (.ref l) (.ref b) H Q := ⟨l, b, xs, zs, rfl, rfl, e1, e2, Evl.sz_of z, q⟩
theorem v_rep {l : Addr} {w : V} {n : Int} (e : H l = some (.lst [w])) (z : 0 ≤ n ∧ n ≤ 100000) (q : ∀ p, H p = none → Q (.ref p) (upd H p (.lst (List.replicate n.toNat w)))) : rRep (.ref l) (.int n) H Q :=
  ⟨l, n, [w], rfl, rfl, e, by omega, by omega, Nat.le_trans (by show 1 * n.toNat ≤ 100000; omega) (by decide), fun p hp => by
    have h : (List.replicate n.toNat [w]).flatten = List.replicate n.toNat w := by
      generalize n.toNat = m
      induction m with
      | zero => rfl
      | succ m ih => rw [List.replicate_succ, List.replicate_succ, List.flatten_cons, ih]; rfl
    rw [h]
    exact q p hp⟩
theorem v_lenL {p : Addr} {xs : List V} (e : H p = some (.lst xs)) (q : Q (.int (xs.length : Int)) H) : rLenQ K [.ref p] H Q := ⟨p, xs, rfl, .inl (SqL.of e), q⟩
theorem v_lenT {p : Addr} {xs : List V} (e : H p = some (.tup xs)) (q : Q (.int (xs.length : Int)) H) : rLenQ K [.ref p] H Q := ⟨p, xs, rfl, .inr (Evl.st_of e), q⟩
theorem v_lenD {p : Addr} {kvs : List (Key × V)} (e : H p = some (.dK kvs)) (q : Q (.int (kvs.length : Int)) H) : rLenD [.ref p] H Q := ⟨p, kvs, rfl, e, q⟩
theorem v_listL {p : Addr} {xs : List V} (e : H p = some (.lst xs)) (q : ∀ l, H l = none → Q (.ref l) (upd H l (.lst xs))) : rListQ K [.ref p] H Q := ⟨p, xs, rfl, .inl (SqL.of e), q⟩
theorem v_listT {p : Addr} {xs : List V} (e : H p = some (.tup xs)) (q : ∀ l, H l = none → Q (.ref l) (upd H l (.lst xs))) : rListQ K [.ref p] H Q := ⟨p, xs, rfl, .inr (Evl.st_of e), q⟩
theorem v_tupL {p : Addr} {xs : List V} (e : H p = some (.lst xs)) (q : ∀ l, H l = none → Q (.ref l) (upd H l (.tup xs))) : rTupQ K [.ref p] H Q := ⟨p, xs, rfl, .inl ⟨SqL.of e, q⟩⟩
theorem v_int {a : Int} (q : Q (.int a) H) : rInt1 [.int a] H Q := .inl ⟨a, rfl, q⟩
theorem v_intB {a : Bool} (q : Q (.int (if a then 1 else 0)) H) : rInt1 [.bl a] H Q := .inr ⟨a, rfl, q⟩
theorem v_minN {a b : Nat} (q : Q (.int ((min a b : Nat) : Int)) H) : rMin2 [.int (a : Int), .int (b : Int)] H Q := ⟨a, b, rfl, by
    have e : (if (b : Int) < (a : Int) then (b : Int) else (a : Int)) = ((min a b : Nat) : Int) := by
      split <;> omega
    rw [e]; exact q⟩
theorem v_min {a b : Int} (q : Q (.int (if b < a then b else a)) H) : rMin2 [.int a, .int b] H Q := ⟨a, b, rfl, q⟩
theorem v_max {a b : Int} (q : Q (.int (if b > a then b else a)) H) : rMax2 [.int a, .int b] H Q := ⟨a, b, rfl, q⟩
theorem v_abs {a : Int} (q : Q (.int (if a < 0 then -a else a)) H) : rAbs1 [.int a] H Q := ⟨a, rfl, q⟩
/-! ### isinstance of a built-in type -/
theorem v_isiI {a : Int} {T : String} {b : Bool} (k : kitB "int" T = some b) (q : Q (.bl b) H) : rIsi K [.int a, .ty T] H Q := ⟨_, _, _, _, b, rfl, .ty T, .base (.int a), kit_ty k, q⟩
theorem v_isiB {a : Bool} {T : String} {b : Bool} (k : kitB "bool" T = some b) (q : Q (.bl b) H) : rIsi K [.bl a, .ty T] H Q := ⟨_, _, _, _, b, rfl, .ty T, .base (.bl a), kit_ty k, q⟩
theorem v_isiS {a : Str} {T : String} {b : Bool} (k : kitB "str" T = some b) (q : Q (.bl b) H) : rIsi K [.str a, .ty T] H Q := ⟨_, _, _, _, b, rfl, .ty T, .base (.str a), kit_ty k, q⟩
theorem v_isiN {T : String} {b : Bool} (k : kitB "NoneType" T = some b) (q : Q (.bl b) H) : rIsi K [.non, .ty T] H Q := ⟨_, _, _, _, b, rfl, .ty T, .base .non, kit_ty k, q⟩
theorem v_isiL {a : Addr} {xs : List V} {T : String} {b : Bool} (e : H a = some (.lst xs)) (k : kitB "list" T = some b) (q : Q (.bl b) H) : rIsi K [.ref a, .ty T] H Q := ⟨_, _, _, _, b, rfl, .ty T, .base (.lst e), kit_ty k, q⟩
theorem v_isiT {a : Addr} {xs : List V} {T : String} {b : Bool} (e : H a = some (.tup xs)) (k : kitB "tuple" T = some b) (q : Q (.bl b) H) : rIsi K [.ref a, .ty T] H Q := ⟨_, _, _, _, b, rfl, .ty T, .base (.tup e), kit_ty k, q⟩
theorem i_II {a : Int} (q : Q (.bl true) H) : rIsi K [.int a, .ty "int"] H Q := v_isiI (by decide +kernel) q
theorem i_IB {a : Int} (q : Q (.bl false) H) : rIsi K [.int a, .ty "bool"] H Q := v_isiI (by decide +kernel) q
theorem i_IS {a : Int} (q : Q (.bl false) H) : rIsi K [.int a, .ty "str"] H Q := v_isiI (by decide +kernel) q
theorem i_IL {a : Int} (q : Q (.bl false) H) : rIsi K [.int a, .ty "list"] H Q := v_isiI (by decide +kernel) q
theorem i_IT {a : Int} (q : Q (.bl false) H) : rIsi K [.int a, .ty "tuple"] H Q := v_isiI (by decide +kernel) q
theorem i_BI {a : Bool} (q : Q (.bl true) H) : rIsi K [.bl a, .ty "int"] H Q := v_isiB (by decide +kernel) q
theorem i_BB {a : Bool} (q : Q (.bl true) H) : rIsi K [.bl a, .ty "bool"] H Q := v_isiB (by decide +kernel) q
theorem i_BS {a : Bool} (q : Q (.bl false) H) : rIsi K [.bl a, .ty "str"] H Q := v_isiB (by decide +kernel) q
theorem i_BL {a : Bool} (q : Q (.bl false) H) : rIsi K [.bl a, .ty "list"] H Q := v_isiB (by decide +kernel) q
theorem i_BT {a : Bool} (q : Q (.bl false) H) : rIsi K [.bl a, .ty "tuple"] H Q := v_isiB (by decide +kernel) q
theorem i_SI {a : Str} (q : Q (.bl false) H) : rIsi K [.str a, .ty "int"] H Q := v_isiS (by decide +kernel) q
theorem i_SB {a : Str} (q : Q (.bl false) H) : rIsi K [.str a, .ty "bool"] H Q := v_isiS (by decide +kernel) q
theorem i_SS {a : Str} (q : Q (.bl true) H) : rIsi K [.str a, .ty "str"] H Q := v_isiS (by decide +kernel) q
theorem i_SL {a : Str} (q : Q (.bl false) H) : rIsi K [.str a, .ty "list"] H Q := v_isiS (by decide +kernel) q
theorem i_ST {a : Str} (q : Q (.bl false) H) : rIsi K [.str a, .ty "tuple"] H Q := v_isiS (by decide +kernel) q
theorem i_NI  (q : Q (.bl false) H) : rIsi K [.non, .ty "int"] H Q := v_isiN (by decide +kernel) q
theorem i_NB  (q : Q (.bl false) H) : rIsi K [.non, .ty "bool"] H Q := v_isiN (by decide +kernel) q
theorem i_NS  (q : Q (.bl false) H) : rIsi K [.non, .ty "str"] H Q := v_isiN (by decide +kernel) q
theorem i_NL  (q : Q (.bl false) H) : rIsi K [.non, .ty "list"] H Q := v_isiN (by decide +kernel) q
theorem i_NT  (q : Q (.bl false) H) : rIsi K [.non, .ty "tuple"] H Q := v_isiN (by decide +kernel) q
theorem i_LI {a : Addr} {xs : List V} (e : H a = some (.lst xs)) (q : Q (.bl false) H) : rIsi K [.ref a, .ty "int"] H Q := v_isiL e (by decide +kernel) q
theorem i_LB {a : Addr} {xs : List V} (e : H a = some (.lst xs)) (q : Q (.bl false) H) : rIsi K [.ref a, .ty "bool"] H Q := v_isiL e (by decide +kernel) q
theorem i_LS {a : Addr} {xs : List V} (e : H a = some (.lst xs)) (q : Q (.bl false) H) : rIsi K [.ref a, .ty "str"] H Q := v_isiL e (by decide +kernel) q
theorem i_LL {a : Addr} {xs : List V} (e : H a = some (.lst xs)) (q : Q (.bl true) H) : rIsi K [.ref a, .ty "list"] H Q := v_isiL e (by decide +kernel) q
theorem i_LT {a : Addr} {xs : List V} (e : H a = some (.lst xs)) (q : Q (.bl false) H) : rIsi K [.ref a, .ty "tuple"] H Q := v_isiL e (by decide +kernel) q
theorem i_TI {a : Addr} {xs : List V} (e : H a = some (.tup xs)) (q : Q (.bl false) H) : rIsi K [.ref a, .ty "int"] H Q := v_isiT e (by decide +kernel) q
theorem i_TB {a : Addr} {xs : List V} (e : H a = some (.tup xs)) (q : Q (.bl false) H) : rIsi K [.ref a, .ty "bool"] H Q := v_isiT e (by decide +kernel) q
theorem i_TS {a : Addr} {xs : List V} (e : H a = some (.tup xs)) (q : Q (.bl false) H) : rIsi K [.ref a, .ty "str"] H Q := v_isiT e (by decide +kernel) q
theorem i_TL {a : Addr} {xs : List V} (e : H a = some (.tup xs)) (q : Q (.bl false) H) : rIsi K [.ref a, .ty "list"] H Q := v_isiT e (by decide +kernel) q
theorem i_TT {a : Addr} {xs : List V} (e : H a = some (.tup xs)) (q : Q (.bl true) H) : rIsi K [.ref a, .ty "tuple"] H Q := v_isiT e (by decide +kernel) q
end

/-! ### equality of data -/
def toD : V → PyData
  | .int i => .int i
  | .bl b => .bool b
  | .str s => .str s
  | _ => .none
def Flat : V → Prop
  | .int _ => True
  | .bl _ => True
  | .non => True
  | .str s => PyData.canLay0 (.str s) = true
  | _ => False
theorem flat_dp {K : PySem.W.Frag} {H : Hp} : ∀ {v : V}, Flat v → Dp K H v (toD v)
  | .int i, _ => .int i
  | .bl b, _ => .bl b
  | .non, _ => .non
  | .str s, _ => .str s
theorem flat_dps {K : PySem.W.Frag} {H : Hp} : ∀ {xs : List V}, (∀ x ∈ xs, Flat x) → DpAll K H xs (xs.map toD)
  | [], _ => .nil
  | _ :: _, h => .cons (flat_dp (h _ List.mem_cons_self)) (flat_dps fun y hy => h y (List.mem_cons_of_mem _ hy))
theorem flat_can : ∀ {v : V}, Flat v → (toD v).canLay0 = true ∧ (toD v).depth = 0
  | .int i, _ => ⟨by simp only [toD, PyData.canLay0], by simp only [toD, PyData.depth]⟩
  | .bl b, _ => ⟨by simp only [toD, PyData.canLay0], by simp only [toD, PyData.depth]⟩
  | .non, _ => ⟨by simp only [toD, PyData.canLay0], by simp only [toD, PyData.depth]⟩
  | .str s, h => ⟨h, by simp only [toD, PyData.depth]⟩
theorem flat_cans : ∀ {xs : List V}, (∀ x ∈ xs, Flat x) → PyData.canLayAll0 (xs.map toD) = true ∧ PyData.depthAll (xs.map toD) = 0
  | [], _ => ⟨by simp only [List.map_nil, PyData.canLayAll0], by simp only [List.map_nil, PyData.depthAll]⟩
  | x :: xs, h => by
    obtain ⟨h1, h2⟩ := flat_can (h _ List.mem_cons_self)
    obtain ⟨h3, h4⟩ := flat_cans (xs := xs) fun y hy => h y (List.mem_cons_of_mem _ hy)
    exact ⟨by simp only [List.map_cons, PyData.canLayAll0, h1, h3, Bool.and_self], by simp only [List.map_cons, PyData.depthAll, h2, h4, Nat.max_self]⟩
theorem flat_shaped {xs : List V} (h : ∀ x ∈ xs, Flat x) : SeqAt.shaped (.list (xs.map toD)) = true ∧ SeqAt.shaped (.tuple (xs.map toD)) = true := by
  obtain ⟨h3, h4⟩ := flat_cans h
  constructor <;> simp only [SeqAt.shaped, PyData.canLay0, PyData.depth, h3, h4] <;> decide
section
variable {K : PySem.W.Frag} {H : Hp} {Q : VK} {v w x y : V} {d e : PyData}
theorem v_eqD (hx : Dp K H x d) (hy : Dp K H y d) (s : SeqAt.shaped d = true) (q : Q (.bl true) H) : rEqD K x y H Q := ⟨d, d, hx, hy, s, s, by rw [SeqAt.eqv_refl d (SeqAt.canLay_of_shaped s)]; exact q⟩
theorem v_neD (hx : Dp K H x d) (hy : Dp K H y d) (s : SeqAt.shaped d = true) (q : Q (.bl false) H) : rNeD K x y H Q := ⟨d, d, hx, hy, s, s, by rw [SeqAt.eqv_refl d (SeqAt.canLay_of_shaped s)]; exact q⟩
theorem v_eqDL {a b : Addr} {xs : List V} (ea : H a = some (.lst xs)) (eb : H b = some (.lst xs)) (f : ∀ x ∈ xs, Flat x) (q : Q (.bl true) H) : rEqD K (.ref a) (.ref b) H Q := v_eqD (.lst (SqL.of ea) (flat_dps f)) (.lst (SqL.of eb) (flat_dps f)) (flat_shaped f).1 q
theorem v_neDL {a b : Addr} {xs : List V} (ea : H a = some (.lst xs)) (eb : H b = some (.lst xs)) (f : ∀ x ∈ xs, Flat x) (q : Q (.bl false) H) : rNeD K (.ref a) (.ref b) H Q := v_neD (.lst (SqL.of ea) (flat_dps f)) (.lst (SqL.of eb) (flat_dps f)) (flat_shaped f).1 q
theorem v_eqDf (f : Flat x) (q : Q (.bl true) H) : rEqD K x x H Q := v_eqD (flat_dp f) (flat_dp f) (by
  obtain ⟨h1, h2⟩ := flat_can f
  simp only [SeqAt.shaped, h1, h2]; decide) q
theorem flat_ints {d : List Int} : ∀ x ∈ d.map V.int, Flat x := fun x hx => by
  obtain ⟨i, _, rfl⟩ := List.mem_map.mp hx
  exact True.intro
theorem flat_bls {d : List Bool} : ∀ x ∈ d.map V.bl, Flat x := fun x hx => by
  obtain ⟨i, _, rfl⟩ := List.mem_map.mp hx
  exact True.intro
theorem v_ixQL {p : Addr} {xs : List V} {n : Int} (e : H p = some (.lst xs)) (l : atI xs n = some v) (q : Q v H) : rIx K (.ref p) (.int n) H Q := .inl (v_ixL e l q)
theorem v_ixQT {p : Addr} {xs : List V} {n : Int} (e : H p = some (.tup xs)) (l : atI xs n = some v) (q : Q v H) : rIx K (.ref p) (.int n) H Q := .inr (.inl (v_ixT e l q))
end
/-! ### heaps -/
theorem same_at {H H' : Hp} {b : Addr} {o : HO} (s : Same H H') (h : H b = some o) : H' b = some o := s b o h
theorem same_new {H : Hp} {p : Addr} {o : HO} (h : H p = none) : Same H (upd H p o) := fun b u e => by
  rw [upd_ne (ne_of_none e h)]
  exact e
theorem upd_none {H : Hp} {a b : Addr} {o : HO} (h : upd H a o b = none) : H b = none ∧ b ≠ a := by
  by_cases e : b = a
  · subst e; rw [upd_same] at h; cases h
  · rw [upd_ne e] at h; exact ⟨h, e⟩
theorem free_upd {H : Hp} {a b : Addr} {o : HO} (h : upd H a o b = none) : H b = none := (upd_none h).1
theorem upd_self {H : Hp} {a : Addr} {o : HO} (h : H a = some o) : upd H a o = H := funext fun b => by
  by_cases e : b = a
  · subst e; rw [upd_same, h]
  · rw [upd_ne e]
/-- all but the objects of l is as it was -/
def Fr (H H' : Hp) (l : List Addr) : Prop := ∀ b o, H b = some o → b ∉ l → H' b = some o
theorem Fr.of_same {H H' : Hp} {l : List Addr} (s : Same H H') : Fr H H' l := fun b o e _ => s b o e
theorem Fr.refl {H : Hp} {l : List Addr} : Fr H H l := fun _ _ e _ => e
theorem Fr.trans {H H1 H2 : Hp} {l : List Addr} (a : Fr H H1 l) (b : Fr H1 H2 l) : Fr H H2 l := fun x o e n => b x o (a x o e n) n
theorem Fr.mono {H H1 : Hp} {l m : List Addr} (a : Fr H H1 l) (h : ∀ x ∈ l, x ∈ m) : Fr H H1 m := fun x o e n => a x o e fun q => n (h x q)
theorem Fr.at {H H' : Hp} {l : List Addr} {b : Addr} {o : HO} (f : Fr H H' l) (h : H b = some o) (n : b ∉ l) : H' b = some o := f b o h n
theorem Fr.updm {H H' : Hp} {a : Addr} {o : HO} {l : List Addr} (h : Fr H H' l) (m : a ∈ l) : Fr H (upd H' a o) l := fun b u e n => by
  rw [upd_ne (fun q => n (by rw [q]; exact m))]; exact h b u e n
theorem Fr.updf {H H' : Hp} {a : Addr} {o : HO} {l : List Addr} (h : Fr H H' l) (m : H a = none) : Fr H (upd H' a o) l := fun b u e n => by
  rw [upd_ne (ne_of_none e m)]; exact h b u e n
theorem Same.updf {H H' : Hp} {a : Addr} {o : HO} (h : Same H H') (m : H a = none) : Same H (upd H' a o) := fun b u e => by
  rw [upd_ne (ne_of_none e m)]; exact h b u e
theorem free_at {H H' : Hp} {b : Addr} (s : Same H H') (h : H' b = none) : H b = none := s.free h
/-! ### loops -/
def forK (J : It) (g : TG) (tb : TS) (D : Ends) (σ : St) (H1 : Hp) : Prop := ∃ W : Nat → Nat → St → Hp → Prop, (∃ m, W 0 m σ H1) ∧ ∀ i m σ H, W i m σ H →
  (J.stop i H ∧ D.nx σ H) ∨ (J.go i H ∧ ∃ N : St → Hp → Prop, (∀ σ' H', N σ' H' → ∃ m', m' < m ∧ W (i + 1) m' σ' H') ∧ ∀ x H', J.yld i H x H' → g x σ H' fun σ2 H2 => tb { D with nx := N, ct := N, bk := D.nx } σ2 H2)
def itLK (K : PySem.W.Frag) (x : V) (H1 : Hp) (R : It → Hp → Prop) : Prop := ∃ a, x = .ref a ∧ (∃ xs, SqL K H1 a xs) ∧ R (Itl K a) H1
def itTK (K : PySem.W.Frag) (x : V) (H1 : Hp) (R : It → Hp → Prop) : Prop := ∃ a, x = .ref a ∧ (∃ xs, SqT K H1 a xs) ∧ R (Itt K a) H1
def itRK (vs : List V) (H1 : Hp) (R : It → Hp → Prop) : Prop := ∃ j : Int, vs = [.int j] ∧ -(2 ^ 62) ≤ j ∧ j < 2 ^ 62 ∧ R (Itr 0 j.toNat) H1
def itR2K (vs : List V) (H1 : Hp) (R : It → Hp → Prop) : Prop := ∃ i j : Int, vs = [.int i, .int j] ∧ (-(2 ^ 62) ≤ i ∧ i < 2 ^ 62 ∧ -(2 ^ 62) ≤ j ∧ j < 2 ^ 62) ∧ R (Itr i (j - i).toNat) H1
def itZK (K : PySem.W.Frag) (vs : List V) (H1 : Hp) (R : It → Hp → Prop) : Prop := ∃ a b xs ys, vs = [.ref a, .ref b] ∧ SqL K H1 a xs ∧ SqL K H1 b ys ∧ R (Itz K a b) H1
def itEK (K : PySem.W.Frag) (vs : List V) (H1 : Hp) (R : It → Hp → Prop) : Prop := ∃ a xs, vs = [.ref a] ∧ SqL K H1 a xs ∧ R (Ite K a) H1
def itSK (v : V) (H1 : Hp) (R : It → Hp → Prop) : Prop := ∃ x, v = .str x ∧ R (Its x) H1
def lcK (J : It) (g : TG) (tt : TT) (te : TE) (vs : List Nat) (σ : St) (H1 : Hp) (Q : VK) : Prop := ∀ D, H1 D = none → ∃ W : Nat → Nat → Hp → Prop, (∃ m, W 0 m (upd H1 D (.lst []))) ∧ ∀ i m H, W i m H →
  (J.stop i H ∧ Q (.ref D) H) ∨ (J.go i H ∧ ∃ Nx : Hp → Prop, (∀ H', Nx H' → ∃ m', m' < m ∧ W (i + 1) m' H') ∧ ∀ x H', J.yld i H x H' → g x (wipe σ vs) H' fun σ2 H2 => wipe σ2 vs = wipe σ vs ∧ tt σ2 H2 fun b H3 =>
    if b = true then te σ2 H3 fun y H4 => ∃ acc, H4 D = some (.lst acc) ∧ acc.length < sizeLine ∧ Nx (upd H4 D (.lst (acc ++ [y]))) else Nx H3)
section
variable {σ : St} {H : Hp} {D : Ends} {tb : TS} {te tl : TE} {Q : VK} {g : TG} {v : V} {ta : TA} {K : PySem.W.Frag} {wi : TI} {R : It → Hp → Prop} {tt : TT} {vs : List Nat}
theorem g_for (h : wi σ H fun J H1 => forK J g tb D σ H1) : tFor wi g tb D σ H := h
theorem g_lc (h : wi σ H fun J H1 => lcK J g tt te vs σ H1 Q) : tLc wi g tt te vs σ H Q := h
theorem g_iL (h : tl σ H fun x H1 => itLK K x H1 R) : iList K tl σ H R := h
theorem g_iT (h : tl σ H fun x H1 => itTK K x H1 R) : iTup K tl σ H R := h
theorem g_iR (h : ta σ H fun x H1 => itRK x H1 R) : iRng1 ta σ H R := h
theorem g_iR2 (h : ta σ H fun x H1 => itR2K x H1 R) : iRng2 ta σ H R := h
theorem g_iZ (h : ta σ H fun x H1 => itZK K x H1 R) : iZip K ta σ H R := h
theorem g_iE (h : ta σ H fun x H1 => itEK K x H1 R) : iEnum K ta σ H R := h
theorem g_iS (h : tl σ H fun x H1 => itSK x H1 R) : iStr tl σ H R := h
theorem g_iLK {a : Addr} {xs : List V} (e : H a = some (.lst xs)) (q : R (Itl K a) H) : itLK K (.ref a) H R := ⟨a, rfl, ⟨xs, SqL.of e⟩, q⟩
theorem g_iTK {a : Addr} {xs : List V} (e : H a = some (.tup xs)) (q : R (Itt K a) H) : itTK K (.ref a) H R := ⟨a, rfl, ⟨xs, Evl.st_of e⟩, q⟩
theorem g_iRK {n : Int} (b : -(2 ^ 62) ≤ n ∧ n < 2 ^ 62) (q : R (Itr 0 n.toNat) H) : itRK [.int n] H R := ⟨n, rfl, b.1, b.2, q⟩
theorem g_iR2K {m n : Int} (b : -(2 ^ 62) ≤ m ∧ m < 2 ^ 62 ∧ -(2 ^ 62) ≤ n ∧ n < 2 ^ 62) (q : R (Itr m (n - m).toNat) H) : itR2K [.int m, .int n] H R := ⟨m, n, rfl, b, q⟩
theorem g_iZK {a b : Addr} {xs ys : List V} (e1 : H a = some (.lst xs)) (e2 : H b = some (.lst ys)) (q : R (Itz K a b) H) : itZK K [.ref a, .ref b] H R := ⟨a, b, xs, ys, rfl, SqL.of e1, SqL.of e2, q⟩
theorem g_iEK {a : Addr} {xs : List V} (e1 : H a = some (.lst xs)) (q : R (Ite K a) H) : itEK K [.ref a] H R := ⟨a, xs, rfl, SqL.of e1, q⟩
theorem g_iSK {x : Str} (q : R (Its x) H) : itSK (.str x) H R := ⟨x, rfl, q⟩
theorem for_L {a : Addr} (xs : List V) (Pv : Nat → St → Hp → Prop) (h0 : Pv 0 σ H) (hl : ∀ i σ H, i ≤ xs.length → Pv i σ H → SqL K H a xs)
    (hs : ∀ i x σ H, xs[i]? = some x → Pv i σ H → g x σ H fun σ2 H2 => tb { D with nx := Pv (i + 1), ct := Pv (i + 1), bk := D.nx } σ2 H2) (hd : ∀ σ H, Pv xs.length σ H → D.nx σ H) : forK (Itl K a) g tb D σ H := for_list (K := K) Pv h0 hl hs hd
theorem for_T {a : Addr} (xs : List V) (Pv : Nat → St → Hp → Prop) (h0 : Pv 0 σ H) (hl : ∀ i σ H, i ≤ xs.length → Pv i σ H → SqT K H a xs)
    (hs : ∀ i x σ H, xs[i]? = some x → Pv i σ H → g x σ H fun σ2 H2 => tb { D with nx := Pv (i + 1), ct := Pv (i + 1), bk := D.nx } σ2 H2) (hd : ∀ σ H, Pv xs.length σ H → D.nx σ H) : forK (Itt K a) g tb D σ H := for_tup (K := K) Pv h0 hl hs hd
theorem for_R {lo : Int} {n : Nat} (Pv : Nat → St → Hp → Prop) (h0 : Pv 0 σ H) (hs : ∀ (i : Nat) σ H, i < n → Pv i σ H → g (.int (lo + i)) σ H fun σ2 H2 => tb { D with nx := Pv (i + 1), ct := Pv (i + 1), bk := D.nx } σ2 H2) (hd : ∀ σ H, Pv n σ H → D.nx σ H) : forK (Itr lo n) g tb D σ H := for_range Pv h0 hs hd
theorem for_R0 {n : Nat} (Pv : Nat → St → Hp → Prop) (h0 : Pv 0 σ H) (hs : ∀ (i : Nat) σ H, i < n → Pv i σ H → g (.int (i : Int)) σ H fun σ2 H2 => tb { D with nx := Pv (i + 1), ct := Pv (i + 1), bk := D.nx } σ2 H2) (hd : ∀ σ H, Pv n σ H → D.nx σ H) : forK (Itr 0 n) g tb D σ H :=
  for_range Pv h0 (fun i σ H hi p => by rw [Int.zero_add]; exact hs i σ H hi p) hd
theorem for_S {x : Str} (Pv : Nat → St → Hp → Prop) (h0 : Pv 0 σ H) (hs : ∀ (i : Nat) (c : Nat) σ H, x.cps[i]? = some c → Pv i σ H → g (.str ⟨#[c]⟩) σ H fun σ2 H2 => tb { D with nx := Pv (i + 1), ct := Pv (i + 1), bk := D.nx } σ2 H2) (hd : ∀ σ H, Pv x.cps.size σ H → D.nx σ H) : forK (Its x) g tb D σ H := by
  refine ⟨fun i m σ H => m = x.cps.size - i ∧ i ≤ x.cps.size ∧ Pv i σ H, ⟨x.cps.size, by simp, Nat.zero_le _, h0⟩, ?_⟩
  rintro i m σ H ⟨rfl, hi, p⟩
  by_cases hlt : i < x.cps.size
  · refine .inr ⟨hlt, Pv (i + 1), fun σ' H' p' => ⟨x.cps.size - (i + 1), by omega, rfl, hlt, p'⟩, fun v H' y => ?_⟩
    obtain ⟨e, c, hc, ev⟩ := y
    subst e ev
    exact hs i c σ H' hc p
  · have e : i = x.cps.size := by omega
    subst e
    exact .inl ⟨Nat.le_refl _, hd σ H p⟩
theorem for_Z {a b : Addr} (xs ys : List V) (Pv : Nat → St → Hp → Prop) (h0 : Pv 0 σ H) (hq : ∀ i σ H, Pv i σ H → SqL K H a xs ∧ SqL K H b ys)
    (hs : ∀ (i : Nat) (x y : V) (T : Addr) (σ : St) (H : Hp), xs[i]? = some x → ys[i]? = some y → Pv i σ H → H T = none → g (.ref T) σ (upd H T (.tup [x, y])) fun σ2 H2 => tb { D with nx := Pv (i + 1), ct := Pv (i + 1), bk := D.nx } σ2 H2)
    (hd : ∀ i σ H, (i = xs.length ∧ i ≤ ys.length ∨ i = ys.length ∧ i ≤ xs.length) → Pv i σ H → D.nx σ H) : forK (Itz K a b) g tb D σ H := by
  refine ⟨fun i m σ H => m = xs.length - i ∧ i ≤ xs.length ∧ i ≤ ys.length ∧ Pv i σ H, ⟨xs.length, rfl, Nat.zero_le _, Nat.zero_le _, h0⟩, ?_⟩
  rintro i m σ H ⟨rfl, hi, hj, p⟩
  obtain ⟨qx, qy⟩ := hq i σ H p
  by_cases hlt : i < xs.length ∧ i < ys.length
  · have hx : xs[i]? = some xs[i] := List.getElem?_eq_getElem hlt.1
    have hy : ys[i]? = some ys[i] := List.getElem?_eq_getElem hlt.2
    refine .inr ⟨⟨xs, ys, _, _, qx, qy, hx, hy⟩, Pv (i + 1), fun σ' H' p' => ⟨xs.length - (i + 1), by omega, rfl, hlt.1, hlt.2, p'⟩, fun v H' y => ?_⟩
    obtain ⟨T, x', y', rfl, hT, rfl, f1, f2⟩ := y
    exact hs i x' y' T σ H (f1 xs qx) (f2 ys qy) p hT
  · exact .inl ⟨⟨xs, ys, qx, qy, by omega⟩, hd i σ H (by omega) p⟩
theorem lc_R {n : Nat} (Pv : Addr → Nat → Hp → Prop) (h0 : ∀ D, H D = none → Pv D 0 (upd H D (.lst [])))
    (hs : ∀ D (i : Nat) H, i < n → Pv D i H → g (.int (i : Int)) (wipe σ vs) H fun σ2 H2 => wipe σ2 vs = wipe σ vs ∧ tt σ2 H2 fun b H3 =>
      if b = true then te σ2 H3 fun y H4 => ∃ acc, H4 D = some (.lst acc) ∧ acc.length < sizeLine ∧ Pv D (i + 1) (upd H4 D (.lst (acc ++ [y]))) else Pv D (i + 1) H3) (hd : ∀ D H, Pv D n H → Q (.ref D) H) : lcK (Itr 0 n) g tt te vs σ H Q :=
  fun D hD => lc_range (Pv D) (h0 D hD) (fun i H hi p => by rw [Int.zero_add]; exact hs D i H hi p) (hd D)
theorem lc_L {a : Addr} (xs : List V) (Pv : Addr → Nat → Hp → Prop) (h0 : ∀ D, H D = none → Pv D 0 (upd H D (.lst []))) (hl : ∀ D i H, i ≤ xs.length → Pv D i H → SqL K H a xs)
    (hs : ∀ D i x H, xs[i]? = some x → Pv D i H → g x (wipe σ vs) H fun σ2 H2 => wipe σ2 vs = wipe σ vs ∧ tt σ2 H2 fun b H3 =>
      if b = true then te σ2 H3 fun y H4 => ∃ acc, H4 D = some (.lst acc) ∧ acc.length < sizeLine ∧ Pv D (i + 1) (upd H4 D (.lst (acc ++ [y]))) else Pv D (i + 1) H3) (hd : ∀ D H, Pv D xs.length H → Q (.ref D) H) : lcK (Itl K a) g tt te vs σ H Q :=
  fun D hD => lc_list (xs := xs) (Pv D) (h0 D hD) (hl D) (hs D) (hd D)
theorem g_yesT {R : Bool → Hp → Prop} (h : R true H) : tYes σ H R := h
/-- a comprehension whose elements only make things: what holds of each -/
def lcEnd (H : Hp) (n : Nat) (Rel : Nat → V → Hp → Prop) (Q : VK) : Prop := ∀ D ys H', H D = none → H' D = some (.lst ys) → Same H H' → ys.length = n → (∀ i y, ys[i]? = some y → Rel i y H') → Q (.ref D) H'
def lcPv (H : Hp) (Rel : Nat → V → Hp → Prop) (D : Addr) (i : Nat) (H' : Hp) : Prop := Same H H' ∧ H D = none ∧ ∃ ys, H' D = some (.lst ys) ∧ ys.length = i ∧ ∀ j y, ys[j]? = some y → Rel j y H'
theorem lc_mapR {n j : Nat} (Rel : Nat → V → Hp → Prop) (mono : ∀ i y H1 H2 D acc H0, H D = none → H1 D = some (.lst acc) → (∀ k z, acc[k]? = some z → Rel k z H0) → Fr H1 H2 [D] → Rel i y H1 → Rel i y H2) (hz : n ≤ 100000)
    (hw : ∀ i : Nat, wipe ((wipe σ vs).set j (some (.int (i : Int)))) vs = wipe σ vs)
    (hs : ∀ (i : Nat) H', i < n → Same H H' → ∀ R : VK, (∀ y H'', Same H' H'' → Rel i y H'' → R y H'') → te ((wipe σ vs).set j (some (.int (i : Int)))) H' R)
    (hd : lcEnd H n Rel Q) : lcK (Itr 0 n) (gName j) tYes te vs σ H Q := by
  refine lc_R (lcPv H Rel) (fun D hD => ⟨fun b u e => (by rw [upd_ne (ne_of_none e hD)]; exact e), hD, [], upd_same, rfl, fun j y e => by simp at e⟩) (fun D i H' hi p => ⟨hw i, ?_⟩) fun D H' p => ?_
  · obtain ⟨s, hD, ys, h1, h2, h3⟩ := p
    refine g_yesT ?_
    rw [if_pos rfl]
    refine (hs i H' hi s _ fun y H4 s4 r => ⟨ys, s4 D _ h1, Nat.lt_of_le_of_lt (show ys.length ≤ 100000 by omega) (by decide), ?_⟩)
    have f : Fr H4 (upd H4 D (.lst (ys ++ [y]))) [D] := fun b o e n => by
      rw [upd_ne (by simpa using n)]; exact e
    refine ⟨fun b o e => ?_, hD, _, upd_same, by rw [List.length_append, h2]; rfl, fun k z e => ?_⟩
    · rw [upd_ne (ne_of_none e hD)]
      exact s4 b o (s b o e)
    · by_cases hk : k < ys.length
      · rw [List.getElem?_append_left hk] at e
        exact mono k z H4 _ D ys H' hD (s4 D _ h1) h3 f (mono k z H' H4 D ys H' hD h1 h3 (fun b o e _ => s4 b o e) (h3 k z e))
      · rw [List.getElem?_append_right (by omega)] at e
        have hk0 : k - ys.length = 0 := by
          cases q : k - ys.length with
          | zero => rfl
          | succ m => rw [q] at e; cases e
        rw [hk0] at e
        cases e
        have e2 : k = i := by omega
        subst e2
        exact mono k y H4 _ D ys H' hD (s4 D _ h1) h3 f r
  · obtain ⟨s, hD, ys, h1, h2, h3⟩ := p
    exact hd D ys H' hD h1 s h2 h3
theorem lc_mapL {a : Addr} {j : Nat} (xs : List V) (hx : SqL K H a xs) (Rel : Nat → V → Hp → Prop) (mono : ∀ i y H1 H2 D acc H0, H D = none → H1 D = some (.lst acc) → (∀ k z, acc[k]? = some z → Rel k z H0) → Fr H1 H2 [D] → Rel i y H1 → Rel i y H2) (hz : xs.length ≤ 100000)
    (hw : ∀ x : V, wipe ((wipe σ vs).set j (some x)) vs = wipe σ vs)
    (hs : ∀ (i : Nat) x H', xs[i]? = some x → Same H H' → ∀ R : VK, (∀ y H'', Same H' H'' → Rel i y H'' → R y H'') → te ((wipe σ vs).set j (some x)) H' R)
    (hd : lcEnd H xs.length Rel Q) : lcK (Itl K a) (gName j) tYes te vs σ H Q := by
  refine lc_L xs (lcPv H Rel) (fun D hD => ⟨fun b u e => (by rw [upd_ne (ne_of_none e hD)]; exact e), hD, [], upd_same, rfl, fun j y e => by simp at e⟩) (fun D i H' hi p => p.1.seq hx) (fun D i x H' hi p => ⟨hw x, ?_⟩) fun D H' p => ?_
  · obtain ⟨s, hD, ys, h1, h2, h3⟩ := p
    have hlt := (List.getElem?_eq_some_iff.mp hi).1
    refine g_yesT ?_
    rw [if_pos rfl]
    refine (hs i x H' hi s _ fun y H4 s4 r => ⟨ys, s4 D _ h1, Nat.lt_of_le_of_lt (show ys.length ≤ 100000 by omega) (by decide), ?_⟩)
    have f : Fr H4 (upd H4 D (.lst (ys ++ [y]))) [D] := fun b o e n => by
      rw [upd_ne (by simpa using n)]; exact e
    refine ⟨fun b o e => ?_, hD, _, upd_same, by rw [List.length_append, h2]; rfl, fun k z e => ?_⟩
    · rw [upd_ne (ne_of_none e hD)]
      exact s4 b o (s b o e)
    · by_cases hk : k < ys.length
      · rw [List.getElem?_append_left hk] at e
        exact mono k z H4 _ D ys H' hD (s4 D _ h1) h3 f (mono k z H' H4 D ys H' hD h1 h3 (fun b o e _ => s4 b o e) (h3 k z e))
      · rw [List.getElem?_append_right (by omega)] at e
        have hk0 : k - ys.length = 0 := by
          cases q : k - ys.length with
          | zero => rfl
          | succ m => rw [q] at e; cases e
        rw [hk0] at e
        cases e
        have e2 : k = i := by omega
        subst e2
        exact mono k y H4 _ D ys H' hD (s4 D _ h1) h3 f r
  · obtain ⟨s, hD, ys, h1, h2, h3⟩ := p
    exact hd D ys H' hD h1 s h2 h3
end

end
/-! Q2 -/
section
open PySem PySem.Spec PyProof.Rows

def rLtD (K : PySem.W.Frag) : R2 := fun x y H Q => ∃ d e, Dp K H x d ∧ Dp K H y e ∧ PySem.W.alike d e = true ∧ d ≠ .none ∧ d.depth ≤ 64 ∧ Q (.bl (PySem.W.dataLt d e)) H
def rGtD (K : PySem.W.Frag) : R2 := fun x y H Q => ∃ d e, Dp K H x d ∧ Dp K H y e ∧ PySem.W.alike d e = true ∧ d ≠ .none ∧ d.depth ≤ 64 ∧ Q (.bl (PySem.W.dataLt e d)) H
def rLeD (K : PySem.W.Frag) : R2 := fun x y H Q => ∃ d e, Dp K H x d ∧ Dp K H y e ∧ PySem.W.alike d e = true ∧ d ≠ .none ∧ d.depth ≤ 64 ∧ Q (.bl (!PySem.W.dataLt e d)) H
def rGeD (K : PySem.W.Frag) : R2 := fun x y H Q => ∃ d e, Dp K H x d ∧ Dp K H y e ∧ PySem.W.alike d e = true ∧ d ≠ .none ∧ d.depth ≤ 64 ∧ Q (.bl (!PySem.W.dataLt d e)) H
section
variable {X : Cx}
theorem min_room {u a b : Nat} (hu : u + 64 < cLine) (h : a ≤ 64) : u + min a b < cLine := by omega
theorem op_ltD (hu : X.A.units + 64 < cLine) : OpR X (compareOp .Lt) (rLtD X.K) := by
  intro pins s σ H x y v u Q I rx ry h
  obtain ⟨d, e, hd, he, al, hn, hz, q⟩ := h
  obtain ⟨as, r1⟩ := Dp.reads I d x v hd rx
  obtain ⟨bs, r2⟩ := Dp.reads I e y u he ry
  exact PySem.W.lt_data r1 r2 al hn (min_room hu hz) ⟨.bl _, H, I, rfl, q⟩
theorem op_gtD (hu : X.A.units + 64 < cLine) : OpR X (compareOp .Gt) (rGtD X.K) := by
  intro pins s σ H x y v u Q I rx ry h
  obtain ⟨d, e, hd, he, al, hn, hz, q⟩ := h
  obtain ⟨as, r1⟩ := Dp.reads I d x v hd rx
  obtain ⟨bs, r2⟩ := Dp.reads I e y u he ry
  exact PySem.W.gt_data r1 r2 al hn (min_room hu hz) ⟨.bl _, H, I, rfl, q⟩
theorem op_leD (hu : X.A.units + 64 < cLine) : OpR X (compareOp .LtE) (rLeD X.K) := by
  intro pins s σ H x y v u Q I rx ry h
  obtain ⟨d, e, hd, he, al, hn, hz, q⟩ := h
  obtain ⟨as, r1⟩ := Dp.reads I d x v hd rx
  obtain ⟨bs, r2⟩ := Dp.reads I e y u he ry
  exact PySem.W.le_data r1 r2 al hn (min_room hu hz) ⟨.bl _, H, I, rfl, q⟩
theorem op_geD (hu : X.A.units + 64 < cLine) : OpR X (compareOp .GtE) (rGeD X.K) := by
  intro pins s σ H x y v u Q I rx ry h
  obtain ⟨d, e, hd, he, al, hn, hz, q⟩ := h
  obtain ⟨as, r1⟩ := Dp.reads I d x v hd rx
  obtain ⟨bs, r2⟩ := Dp.reads I e y u he ry
  exact PySem.W.ge_data r1 r2 al hn (min_room hu hz) ⟨.bl _, H, I, rfl, q⟩
end
/-! ### tuples of ints -/
def lexI : List Int → List Int → Bool
  | [], [] => false
  | [], _ :: _ => true
  | _ :: _, [] => false
  | x :: xs, y :: ys => if x = y then lexI xs ys else decide (x < y)
section
variable {K : PySem.W.Frag} {H : Hp} {Q : VK}
theorem ints_dps : ∀ ns : List Int, DpAll K H (ns.map V.int) (ns.map PyData.int)
  | [] => .nil
  | n :: ns => .cons (.int n) (ints_dps ns)
theorem ints_alike : ∀ ns ms : List Int, PySem.W.alikeAll (ns.map PyData.int) (ms.map PyData.int) = true
  | [], _ => by simp only [List.map_nil, PySem.W.alikeAll]
  | _ :: _, [] => by simp only [List.map_nil, List.map_cons, PySem.W.alikeAll]
  | n :: ns, m :: ms => by simp only [List.map_cons, PySem.W.alikeAll, PySem.W.alike, ints_alike ns ms, Bool.and_self]
theorem ints_depth : ∀ ns : List Int, PyData.depthAll (ns.map PyData.int) = 0
  | [] => by simp only [List.map_nil, PyData.depthAll]
  | n :: ns => by simp only [List.map_cons, PyData.depthAll, PyData.depth, ints_depth ns, Nat.max_self]
theorem listLt_lexI : ∀ ns ms : List Int, PySem.W.listLt ns ms = lexI ns ms
  | [], [] => by simp only [PySem.W.listLt, lexI]
  | [], _ :: _ => by simp only [PySem.W.listLt, lexI]
  | _ :: _, [] => by simp only [PySem.W.listLt, lexI]
  | n :: ns, m :: ms => by
    simp only [PySem.W.listLt, lexI, listLt_lexI ns ms]
    rfl
theorem dataLt_ints (ns ms : List Int) : PySem.W.dataLt (.tuple (ns.map PyData.int)) (.tuple (ms.map PyData.int)) = lexI ns ms := by
  rw [PySem.W.dataLt_tuple, ← listLt_lexI]
  exact PySem.W.lexAll_map ns ms
theorem ints_cmp (ns ms : List Int) : PySem.W.alike (.tuple (ns.map PyData.int)) (.tuple (ms.map PyData.int)) = true ∧ (PyData.tuple (ns.map PyData.int)) ≠ .none ∧ (PyData.tuple (ns.map PyData.int)).depth ≤ 64 :=
  ⟨by simp only [PySem.W.alike, ints_alike], (fun h => by cases h), by simp only [PyData.depth, ints_depth]; decide⟩
theorem v_ltTI {a b : Addr} {ns ms : List Int} (ea : H a = some (.tup (ns.map V.int))) (eb : H b = some (.tup (ms.map V.int))) (q : Q (.bl (lexI ns ms)) H) : rLtD K (.ref a) (.ref b) H Q :=
  ⟨_, _, .tup (Evl.st_of ea) (ints_dps ns), .tup (Evl.st_of eb) (ints_dps ms), (ints_cmp ns ms).1, (ints_cmp ns ms).2.1, (ints_cmp ns ms).2.2, by rw [dataLt_ints]; exact q⟩
theorem v_gtTI {a b : Addr} {ns ms : List Int} (ea : H a = some (.tup (ns.map V.int))) (eb : H b = some (.tup (ms.map V.int))) (q : Q (.bl (lexI ms ns)) H) : rGtD K (.ref a) (.ref b) H Q :=
  ⟨_, _, .tup (Evl.st_of ea) (ints_dps ns), .tup (Evl.st_of eb) (ints_dps ms), (ints_cmp ns ms).1, (ints_cmp ns ms).2.1, (ints_cmp ns ms).2.2, by rw [dataLt_ints]; exact q⟩
theorem v_leTI {a b : Addr} {ns ms : List Int} (ea : H a = some (.tup (ns.map V.int))) (eb : H b = some (.tup (ms.map V.int))) (q : Q (.bl (!lexI ms ns)) H) : rLeD K (.ref a) (.ref b) H Q :=
  ⟨_, _, .tup (Evl.st_of ea) (ints_dps ns), .tup (Evl.st_of eb) (ints_dps ms), (ints_cmp ns ms).1, (ints_cmp ns ms).2.1, (ints_cmp ns ms).2.2, by rw [dataLt_ints]; exact q⟩
theorem v_geTI {a b : Addr} {ns ms : List Int} (ea : H a = some (.tup (ns.map V.int))) (eb : H b = some (.tup (ms.map V.int))) (q : Q (.bl (!lexI ns ms)) H) : rGeD K (.ref a) (.ref b) H Q :=
  ⟨_, _, .tup (Evl.st_of ea) (ints_dps ns), .tup (Evl.st_of eb) (ints_dps ms), (ints_cmp ns ms).1, (ints_cmp ns ms).2.1, (ints_cmp ns ms).2.2, by rw [dataLt_ints]; exact q⟩
end
end
/-! Q3 -/
section
open PySem PySem.Spec PyProof.Rows PySem.SeqAt

theorem tupF_lt (p q : Addr) (its jts : Array Value) (n n2 : Nat) (dd dd2 : Option Addr) (sl sl2 : Array (Option Value)) (e r : Nat → Bool) :
    Meets (Builtin.«tuple.__lt__» ⟨[.ref p, .ref q], []⟩)
      (fun A R s => s.heap.get? p = some { cls := .type "tuple", dict := dd, data := .seq its n, slots := sl } ∧ s.heap.get? q = some { cls := .type "tuple", dict := dd2, data := .seq jts n2, slots := sl2 } ∧
        (∀ j (k1 : j < its.size) (k2 : j < jts.size), EqAt A.in1 s its[j] jts[j] (e j)) ∧
        (∀ j (k1 : j < its.size) (k2 : j < jts.size), (∀ k, k < j → e k = true) → e j = false → Ob.RcOp .Lt A.in1 s its[j] jts[j] (r j)) ∧
        R (.ok (.ret (.bool (Ob.lexAt e r (decide (its.size < jts.size)) 0 (min its.size jts.size))))) s) :=
  .of_wp fun prog w A R s h => by
    obtain ⟨m0, gs, ds, ts, ws⟩ := s
    obtain ⟨gp, gq, he, hr, h⟩ := h
    have sub2 := AutoSeq1.sub_tuple_tuple
    have zl : (its.toList.zip jts.toList).length = min its.size jts.size := by simp
    wp_walk using wpAny_loadPart' gp, wpAny_loadPart' gq, wpAny_forIn_list _ (fun rest b s' => b.1 = none ∧ s' = ⟨m0, gs, ds, ts, ws⟩ ∧ ∃ i, (∀ k, k < i → e k = true) ∧ rest = (its.toList.zip jts.toList).drop i ∧
      R (.ok (.ret (.bool (Ob.lexAt e r (decide (its.size < jts.size)) i (min its.size jts.size - i))))) ⟨m0, gs, ds, ts, ws⟩) _
    case turn =>
      rintro ⟨y, x⟩ rest b s' ⟨gb, rfl, i, hall, hz, hR⟩
      have hlt : i < (its.toList.zip jts.toList).length := by
        by_cases hh : i < (its.toList.zip jts.toList).length
        · exact hh
        · rw [List.drop_of_length_le (Nat.le_of_not_lt hh)] at hz; cases hz
      have hm : i < min its.size jts.size := zl ▸ hlt
      have k1 : i < its.size := Nat.lt_of_lt_of_le hm (Nat.min_le_left _ _)
      have k2 : i < jts.size := Nat.lt_of_lt_of_le hm (Nat.min_le_right _ _)
      rw [List.drop_eq_getElem_cons hlt] at hz
      injection hz with hyx hrest
      have ey : y = its[i] := by have := congrArg Prod.fst hyx; simpa using this
      have ex : x = jts[i] := by have := congrArg Prod.snd hyx; simpa using this
      subst ey ex
      rw [show min its.size jts.size - i = (min its.size jts.size - (i + 1)) + 1 by omega, Ob.lexAt_succ] at hR
      refine wpAny_bind (he i k1 k2 prog w _ _ ?_)
      cases hei : e i with
      | true =>
        rw [hei, if_pos rfl] at hR
        wp_walk
        refine ⟨rfl, rfl, i + 1, fun k hk => ?_, hrest, hR⟩
        by_cases hki : k = i
        · rw [hki]; exact hei
        · exact hall k (by omega)
      | false =>
        rw [hei, if_neg Bool.false_ne_true] at hR
        have go1 := hr i k1 k2 hall hei prog w
        wp_walk using go1
        exact ⟨_, rfl, by simpa using hR⟩
    case fin =>
      rintro ⟨b1, b2⟩ s' ⟨gb, rfl, i, hall, hz, hR⟩
      simp only at gb
      subst gb
      have hge : min its.size jts.size ≤ i := by
        by_cases hh : i < (its.toList.zip jts.toList).length
        · rw [List.drop_eq_getElem_cons hh] at hz; cases hz
        · rw [zl] at hh; omega
      rw [Nat.sub_eq_zero_of_le hge, Ob.lexAt_zero] at hR
      wp_walk
      exact ⟨_, rfl, by simpa [Builtin.Tuple.tupleCompareSizes] using hR⟩
    case h =>
      exact ⟨rfl, rfl, 0, fun k hk => absurd hk (by omega), rfl, by simpa using h⟩
theorem tupFR_lt {A : Around} {s : Shared} {p q : Addr} {its jts : Array Value} {e r : Nat → Bool} (gp : s.heap.IsTuple p its) (gq : s.heap.IsTuple q jts) (hu : A.units < cLine)
    (he : ∀ j (k1 : j < its.size) (k2 : j < jts.size), EqAt A.in1 s its[j] jts[j] (e j))
    (hr : ∀ j (k1 : j < its.size) (k2 : j < jts.size), (∀ k, k < j → e k = true) → e j = false → Ob.RcOp .Lt A.in1 s its[j] jts[j] (r j)) :
    Ob.RcOp .Lt A s (.ref p) (.ref q) (Ob.lexAt e r (decide (its.size < jts.size)) 0 (min its.size jts.size)) := fun prog w E Q h => by
  obtain ⟨⟨c1, d1, a1, s1⟩, o1, i1, n, j1⟩ := id gp
  obtain ⟨⟨c2, d2, a2, s2⟩, o2, i2, n2, j2⟩ := id gq
  simp only at i1 j1 i2 j2
  subst i1 j1 i2 j2
  exact richCompare_meets_room (op := .Lt) ⟨_, o1, rfl⟩ ⟨_, o2, rfl⟩ F.slot_tuple_lt F.entry_tuple_lt (F.args_tuple_lt_2 _ _) (tupF_lt p q its jts n n2 d1 d2 s1 s2 e r) ⟨o1, o2, he, hr, ⟨(fun x => nomatch x), h⟩⟩ hu

theorem tupF_gt (p q : Addr) (its jts : Array Value) (n n2 : Nat) (dd dd2 : Option Addr) (sl sl2 : Array (Option Value)) (e r : Nat → Bool) :
    Meets (Builtin.«tuple.__gt__» ⟨[.ref p, .ref q], []⟩)
      (fun A R s => s.heap.get? p = some { cls := .type "tuple", dict := dd, data := .seq its n, slots := sl } ∧ s.heap.get? q = some { cls := .type "tuple", dict := dd2, data := .seq jts n2, slots := sl2 } ∧
        (∀ j (k1 : j < its.size) (k2 : j < jts.size), EqAt A.in1 s its[j] jts[j] (e j)) ∧
        (∀ j (k1 : j < its.size) (k2 : j < jts.size), (∀ k, k < j → e k = true) → e j = false → Ob.RcOp .Gt A.in1 s its[j] jts[j] (r j)) ∧
        R (.ok (.ret (.bool (Ob.lexAt e r (decide (jts.size < its.size)) 0 (min its.size jts.size))))) s) :=
  .of_wp fun prog w A R s h => by
    obtain ⟨m0, gs, ds, ts, ws⟩ := s
    obtain ⟨gp, gq, he, hr, h⟩ := h
    have sub2 := AutoSeq1.sub_tuple_tuple
    have zl : (its.toList.zip jts.toList).length = min its.size jts.size := by simp
    wp_walk using wpAny_loadPart' gp, wpAny_loadPart' gq, wpAny_forIn_list _ (fun rest b s' => b.1 = none ∧ s' = ⟨m0, gs, ds, ts, ws⟩ ∧ ∃ i, (∀ k, k < i → e k = true) ∧ rest = (its.toList.zip jts.toList).drop i ∧
      R (.ok (.ret (.bool (Ob.lexAt e r (decide (jts.size < its.size)) i (min its.size jts.size - i))))) ⟨m0, gs, ds, ts, ws⟩) _
    case turn =>
      rintro ⟨y, x⟩ rest b s' ⟨gb, rfl, i, hall, hz, hR⟩
      have hlt : i < (its.toList.zip jts.toList).length := by
        by_cases hh : i < (its.toList.zip jts.toList).length
        · exact hh
        · rw [List.drop_of_length_le (Nat.le_of_not_lt hh)] at hz; cases hz
      have hm : i < min its.size jts.size := zl ▸ hlt
      have k1 : i < its.size := Nat.lt_of_lt_of_le hm (Nat.min_le_left _ _)
      have k2 : i < jts.size := Nat.lt_of_lt_of_le hm (Nat.min_le_right _ _)
      rw [List.drop_eq_getElem_cons hlt] at hz
      injection hz with hyx hrest
      have ey : y = its[i] := by have := congrArg Prod.fst hyx; simpa using this
      have ex : x = jts[i] := by have := congrArg Prod.snd hyx; simpa using this
      subst ey ex
      rw [show min its.size jts.size - i = (min its.size jts.size - (i + 1)) + 1 by omega, Ob.lexAt_succ] at hR
      refine wpAny_bind (he i k1 k2 prog w _ _ ?_)
      cases hei : e i with
      | true =>
        rw [hei, if_pos rfl] at hR
        wp_walk
        refine ⟨rfl, rfl, i + 1, fun k hk => ?_, hrest, hR⟩
        by_cases hki : k = i
        · rw [hki]; exact hei
        · exact hall k (by omega)
      | false =>
        rw [hei, if_neg Bool.false_ne_true] at hR
        have go1 := hr i k1 k2 hall hei prog w
        wp_walk using go1
        exact ⟨_, rfl, by simpa using hR⟩
    case fin =>
      rintro ⟨b1, b2⟩ s' ⟨gb, rfl, i, hall, hz, hR⟩
      simp only at gb
      subst gb
      have hge : min its.size jts.size ≤ i := by
        by_cases hh : i < (its.toList.zip jts.toList).length
        · rw [List.drop_eq_getElem_cons hh] at hz; cases hz
        · rw [zl] at hh; omega
      rw [Nat.sub_eq_zero_of_le hge, Ob.lexAt_zero] at hR
      wp_walk
      exact ⟨_, rfl, by simpa [Builtin.Tuple.tupleCompareSizes] using hR⟩
    case h =>
      exact ⟨rfl, rfl, 0, fun k hk => absurd hk (by omega), rfl, by simpa using h⟩
theorem tupFR_gt {A : Around} {s : Shared} {p q : Addr} {its jts : Array Value} {e r : Nat → Bool} (gp : s.heap.IsTuple p its) (gq : s.heap.IsTuple q jts) (hu : A.units < cLine)
    (he : ∀ j (k1 : j < its.size) (k2 : j < jts.size), EqAt A.in1 s its[j] jts[j] (e j))
    (hr : ∀ j (k1 : j < its.size) (k2 : j < jts.size), (∀ k, k < j → e k = true) → e j = false → Ob.RcOp .Gt A.in1 s its[j] jts[j] (r j)) :
    Ob.RcOp .Gt A s (.ref p) (.ref q) (Ob.lexAt e r (decide (jts.size < its.size)) 0 (min its.size jts.size)) := fun prog w E Q h => by
  obtain ⟨⟨c1, d1, a1, s1⟩, o1, i1, n, j1⟩ := id gp
  obtain ⟨⟨c2, d2, a2, s2⟩, o2, i2, n2, j2⟩ := id gq
  simp only at i1 j1 i2 j2
  subst i1 j1 i2 j2
  exact richCompare_meets_room (op := .Gt) ⟨_, o1, rfl⟩ ⟨_, o2, rfl⟩ F.slot_tuple_gt F.entry_tuple_gt (F.args_tuple_gt_2 _ _) (tupF_gt p q its jts n n2 d1 d2 s1 s2 e r) ⟨o1, o2, he, hr, ⟨(fun x => nomatch x), h⟩⟩ hu
end
/-! Q4 -/
section
open PySem PySem.Spec PyProof.Rows PySem.SeqAt PySem.W

theorem max2H_max {prog : Program} {w : World} {A : Around} {E : Value → Shared → Prop} {s : Shared} {a b : Value} {Q : Value → Shared → Prop}
    (h : wpAny (model prog w) A.in1 (pyIter (.ref s.heap.objs.size)) (fun it z => ∃ I fp wr G n P St H bt, it = .ref I ∧ WalksS prog w A.in1 I fp wr G n P St ∧ St 0 z ∧ (∀ b ∈ fp, b < z.heap.objs.size) ∧ 0 < n ∧
      (∀ b o, H.get? b = some o → b ∉ wr) ∧ (∀ b o, H.get? b = some o → z.heap.get? b = some o) ∧ CmpIn prog w A.in1 .Gt H P bt ∧ ∀ v s', P (argBest bt (n - 1)) v → Moved wr G z s' → Q v s') E
      { s with heap := s.heap.push { cls := .type "tuple", data := .seq #[a, b] } }) :
    wpAny (model prog w) A (call (.builtin "max") [a, b]) Q E s := by
  have nameL : (toString "max" ++ toString ".loop" : String) = "max.loop" := by decide
  refine call_function_tree (F.kind_max) (F.plain_max) (F.entry_max) (F.args_max2 _ _) ?_
  show wpAny _ A.in1 ((Builtin.Builtins.bindParams "max" ["key", "default"] 0 ⟨[], []⟩) >>= _) _ _ s
  refine wpAny_bind (wpAny_of_eq (show (Builtin.Builtins.bindParams "max" ["key", "default"] 0 ⟨[], []⟩) = pure [none, none] from rfl) ?_)
  show wpAny _ A.in1 ((newTuple [a, b]) >>= _) _ _ s
  refine wpAny_bind (wpAny_newObj_type ?_)
  refine wpAny_bind (wpAny_mono h (fun it z hz => ?_) fun _ _ e => e)
  obtain ⟨I, fp, wr, G, n, P, St, H, bt, rfl, W, st0, ffp, hn, nw, kp, cm, done⟩ := hz
  refine wpAny_bind (wpAny_newObj_type ?_)
  have fS : z.heap.objs.size ∉ fp := fun hm => Nat.lt_irrefl _ (ffp _ hm)
  rw [nameL]
  refine wpAny_pure ⟨plainId_quiet F.plain_max_loop _, codeAny_max_loop_firstH W H nw bt cm z.heap.objs.size fS (fresh_in kp) _ hn (fun b o e => Heap.get?_push_of_some _ (kp b o e)) (W.frame 0 z _ z.toks st0 (Nat.le_refl _) fun b _ o e => Heap.get?_push_of_some _ e) (Heap.get?_push_size _ rfl) fun v s' hP hm => ?_⟩
  exact done v s' hP (Moved.drop_new (tk := z.toks) hm (Nat.le_refl _))

theorem max2H_min {prog : Program} {w : World} {A : Around} {E : Value → Shared → Prop} {s : Shared} {a b : Value} {Q : Value → Shared → Prop}
    (h : wpAny (model prog w) A.in1 (pyIter (.ref s.heap.objs.size)) (fun it z => ∃ I fp wr G n P St H bt, it = .ref I ∧ WalksS prog w A.in1 I fp wr G n P St ∧ St 0 z ∧ (∀ b ∈ fp, b < z.heap.objs.size) ∧ 0 < n ∧
      (∀ b o, H.get? b = some o → b ∉ wr) ∧ (∀ b o, H.get? b = some o → z.heap.get? b = some o) ∧ CmpIn prog w A.in1 .Lt H P bt ∧ ∀ v s', P (argBest bt (n - 1)) v → Moved wr G z s' → Q v s') E
      { s with heap := s.heap.push { cls := .type "tuple", data := .seq #[a, b] } }) :
    wpAny (model prog w) A (call (.builtin "min") [a, b]) Q E s := by
  have nameL : (toString "min" ++ toString ".loop" : String) = "min.loop" := by decide
  refine call_function_tree (F.kind_min) (F.plain_min) (F.entry_min) (F.args_min2 _ _) ?_
  show wpAny _ A.in1 ((Builtin.Builtins.bindParams "min" ["key", "default"] 0 ⟨[], []⟩) >>= _) _ _ s
  refine wpAny_bind (wpAny_of_eq (show (Builtin.Builtins.bindParams "min" ["key", "default"] 0 ⟨[], []⟩) = pure [none, none] from rfl) ?_)
  show wpAny _ A.in1 ((newTuple [a, b]) >>= _) _ _ s
  refine wpAny_bind (wpAny_newObj_type ?_)
  refine wpAny_bind (wpAny_mono h (fun it z hz => ?_) fun _ _ e => e)
  obtain ⟨I, fp, wr, G, n, P, St, H, bt, rfl, W, st0, ffp, hn, nw, kp, cm, done⟩ := hz
  refine wpAny_bind (wpAny_newObj_type ?_)
  have fS : z.heap.objs.size ∉ fp := fun hm => Nat.lt_irrefl _ (ffp _ hm)
  rw [nameL]
  refine wpAny_pure ⟨plainId_quiet F.plain_min_loop _, codeAny_min_loop_firstH W H nw bt cm z.heap.objs.size fS (fresh_in kp) _ hn (fun b o e => Heap.get?_push_of_some _ (kp b o e)) (W.frame 0 z _ z.toks st0 (Nat.le_refl _) fun b _ o e => Heap.get?_push_of_some _ e) (Heap.get?_push_size _ rfl) fun v s' hP hm => ?_⟩
  exact done v s' hP (Moved.drop_new (tk := z.toks) hm (Nat.le_refl _))

theorem two_max {prog : Program} {w : World} {A : Around} {E : Value → Shared → Prop} {s : Shared} {a b : Value} {da db : PyData} {as bs : List Addr} {Q : Value → Shared → Prop} (hh : A.handled = none) (ra : Reads s.heap a da as) (rb : Reads s.heap b db bs)
    (al : AlikeAll [da, db]) (hu : A.units + 1 + PyData.depthAll [da, db] < cLine) (h : ∀ h' tk, (∀ c o, s.heap.get? c = some o → h'.get? c = some o) → Q (if dataLt da db = true then b else a) { s with heap := h', toks := tk }) :
    wpAny (model prog w) A (call (.builtin "max") [a, b]) Q E s := by
  refine max2H_max ?_
  have ext : ∀ c o, s.heap.get? c = some o → (s.heap.push { cls := .type "tuple", data := .seq #[a, b] }).get? c = some o := fun c o e => Heap.get?_push_of_some _ e
  have hT : (s.heap.push { cls := .type "tuple", data := .seq #[a, b] }).IsTuple s.heap.objs.size #[a, b] := ⟨_, Heap.get?_push_size _ rfl, rfl, 0, rfl⟩
  have rs : ReadsAll (s.heap.push { cls := .type "tuple", data := .seq #[a, b] }) (#[a, b] : Array Value).toList [da, db] _ := .cons (reads_keeps ext ra) (.cons (reads_keeps ext rb) .nil)
  refine iter_tupleW (A := A.in1) hh hT fun z e W st ffp nw kp => ?_
  refine ⟨_, _, _, _, _, _, _, _, _, rfl, W, st, ffp, (by decide : 0 < 2), nw, kp, cmpIn_gt (A := A.in1) rs al (by show A.units + 1 + _ < _; exact hu), fun v s' hP m => ?_⟩
  obtain ⟨h', tk, rfl, hk⟩ := moved_old e rfl m
  have q := h h' tk fun c o e => hk c o (ext c o e)
  have ev : v = if dataLt da db = true then b else a := by
    cases hc : dataLt da db <;> simp [argBest, hc] at hP <;> simp [hP]
  rw [ev]
  exact q

theorem two_min {prog : Program} {w : World} {A : Around} {E : Value → Shared → Prop} {s : Shared} {a b : Value} {da db : PyData} {as bs : List Addr} {Q : Value → Shared → Prop} (hh : A.handled = none) (ra : Reads s.heap a da as) (rb : Reads s.heap b db bs)
    (al : AlikeAll [da, db]) (hu : A.units + 1 + PyData.depthAll [da, db] < cLine) (h : ∀ h' tk, (∀ c o, s.heap.get? c = some o → h'.get? c = some o) → Q (if dataLt db da = true then b else a) { s with heap := h', toks := tk }) :
    wpAny (model prog w) A (call (.builtin "min") [a, b]) Q E s := by
  refine max2H_min ?_
  have ext : ∀ c o, s.heap.get? c = some o → (s.heap.push { cls := .type "tuple", data := .seq #[a, b] }).get? c = some o := fun c o e => Heap.get?_push_of_some _ e
  have hT : (s.heap.push { cls := .type "tuple", data := .seq #[a, b] }).IsTuple s.heap.objs.size #[a, b] := ⟨_, Heap.get?_push_size _ rfl, rfl, 0, rfl⟩
  have rs : ReadsAll (s.heap.push { cls := .type "tuple", data := .seq #[a, b] }) (#[a, b] : Array Value).toList [da, db] _ := .cons (reads_keeps ext ra) (.cons (reads_keeps ext rb) .nil)
  refine iter_tupleW (A := A.in1) hh hT fun z e W st ffp nw kp => ?_
  refine ⟨_, _, _, _, _, _, _, _, _, rfl, W, st, ffp, (by decide : 0 < 2), nw, kp, cmpIn_lt (A := A.in1) rs al (by show A.units + 1 + _ < _; exact hu), fun v s' hP m => ?_⟩
  obtain ⟨h', tk, rfl, hk⟩ := moved_old e rfl m
  have q := h h' tk fun c o e => hk c o (ext c o e)
  have ev : v = if dataLt db da = true then b else a := by
    cases hc : dataLt db da <;> simp [argBest, hc] at hP <;> simp [hP]
  rw [ev]
  exact q
end
/-! Q5 -/
section
open PySem PySem.Spec PyProof.Rows
theorem ints_alikeAll (ns ms : List Int) : PySem.W.AlikeAll [PyData.tuple (ns.map PyData.int), PyData.tuple (ms.map PyData.int)] := by
  constructor
  · intro x hx y hy
    simp only [List.mem_cons, List.not_mem_nil, or_false] at hx hy
    rcases hx with rfl | rfl <;> rcases hy with rfl | rfl <;> simp only [PySem.W.alike, ints_alike]
  · intro x hx
    simp only [List.mem_cons, List.not_mem_nil, or_false] at hx
    rcases hx with rfl | rfl <;> exact fun h => by cases h
theorem ints_room (ns ms : List Int) : PyData.depthAll [PyData.tuple (ns.map PyData.int), PyData.tuple (ms.map PyData.int)] = 1 := by
  simp only [PyData.depthAll, PyData.depth, ints_depth]
  decide
def rMaxT (K : PySem.W.Frag) : List V → Hp → VK → Prop := fun xs H Q => ∃ (a b : Addr) (ns ms : List Int), xs = [.ref a, .ref b] ∧ SqT K H a (ns.map V.int) ∧ SqT K H b (ms.map V.int) ∧ Q (if lexI ns ms = true then .ref b else .ref a) H
def rMinT (K : PySem.W.Frag) : List V → Hp → VK → Prop := fun xs H Q => ∃ (a b : Addr) (ns ms : List Int), xs = [.ref a, .ref b] ∧ SqT K H a (ns.map V.int) ∧ SqT K H b (ms.map V.int) ∧ Q (if lexI ms ns = true then .ref b else .ref a) H
theorem cMaxT {X : Cx} (hc : X.calm = true) (hu : X.A.units + 64 < cLine) : CallR X (.builtin "max") (rMaxT X.K) := by
  intro pins s σ H xs us Q I r h
  obtain ⟨a, b, ns, ms, rfl, ha, hb, q⟩ := h
  obtain ⟨u, w', rfl, r1, r2⟩ := vals2 r
  obtain ⟨as, ra⟩ := Dp.reads I _ _ _ (.tup ha (ints_dps ns)) r1
  obtain ⟨bs, rb⟩ := Dp.reads I _ _ _ (.tup hb (ints_dps ms)) r2
  refine two_max (I.ok.hd hc) ra rb (ints_alikeAll ns ms) (by rw [ints_room]; omega) fun h' tk k => ⟨_, H, I.kept k, ?_, q⟩
  rw [dataLt_ints]
  cases lexI ns ms
  · exact r1
  · exact r2
theorem cMinT {X : Cx} (hc : X.calm = true) (hu : X.A.units + 64 < cLine) : CallR X (.builtin "min") (rMinT X.K) := by
  intro pins s σ H xs us Q I r h
  obtain ⟨a, b, ns, ms, rfl, ha, hb, q⟩ := h
  obtain ⟨u, w', rfl, r1, r2⟩ := vals2 r
  obtain ⟨as, ra⟩ := Dp.reads I _ _ _ (.tup ha (ints_dps ns)) r1
  obtain ⟨bs, rb⟩ := Dp.reads I _ _ _ (.tup hb (ints_dps ms)) r2
  refine two_min (I.ok.hd hc) ra rb (ints_alikeAll ns ms) (by rw [ints_room]; omega) fun h' tk k => ⟨_, H, I.kept k, ?_, q⟩
  rw [dataLt_ints]
  cases lexI ms ns
  · exact r1
  · exact r2
end
/-! Q6 -/
section
open PySem PySem.Spec PyProof.Rows
/-- lexicographic, the items compared by lt where they are unlike -/
def lexD (lt : PyData → PyData → Bool) : List PyData → List PyData → Bool
  | [], [] => false
  | [], _ :: _ => true
  | _ :: _, [] => false
  | x :: xs, y :: ys => if PyData.eqv x y = true then lexD lt xs ys else lt x y
theorem lexAt_shift (e r e' r' : Nat → Bool) (z : Bool) : ∀ (n i : Nat), (∀ j, i ≤ j → e (j + 1) = e' j ∧ r (j + 1) = r' j) → Ob.lexAt e r z (i + 1) n = Ob.lexAt e' r' z i n
  | 0, i, _ => by rw [Ob.lexAt_zero, Ob.lexAt_zero]
  | n + 1, i, h => by
    rw [Ob.lexAt_succ, Ob.lexAt_succ, (h i (Nat.le_refl _)).1, (h i (Nat.le_refl _)).2, lexAt_shift e r e' r' z n (i + 1) fun j hj => h j (by omega)]
theorem lexAt_lexD (lt : PyData → PyData → Bool) : ∀ xs ys : List PyData,
    Ob.lexAt (fun j => PyData.eqv (xs.getD j .none) (ys.getD j .none)) (fun j => lt (xs.getD j .none) (ys.getD j .none)) (decide (xs.length < ys.length)) 0 (min xs.length ys.length) = lexD lt xs ys
  | [], [] => by rw [show min ([] : List PyData).length ([] : List PyData).length = 0 from rfl, Ob.lexAt_zero]; rfl
  | [], y :: ys => by rw [show min ([] : List PyData).length (y :: ys).length = 0 from Nat.zero_min _, Ob.lexAt_zero]; exact decide_eq_true (Nat.succ_pos _)
  | x :: xs, [] => by rw [show min (x :: xs).length ([] : List PyData).length = 0 from Nat.min_zero _, Ob.lexAt_zero]; exact decide_eq_false (Nat.not_lt_zero _)
  | x :: xs, y :: ys => by
    have e : min (x :: xs).length (y :: ys).length = min xs.length ys.length + 1 := by rw [List.length_cons, List.length_cons]; omega
    have ih := lexAt_lexD lt xs ys
    rw [e, Ob.lexAt_succ, lexAt_shift _ _ (fun j => PyData.eqv (xs.getD j .none) (ys.getD j .none)) (fun j => lt (xs.getD j .none) (ys.getD j .none)) _ _ 0 fun j _ => ⟨rfl, rfl⟩]
    have ez : decide ((x :: xs).length < (y :: ys).length) = decide (xs.length < ys.length) := by rw [List.length_cons, List.length_cons, decide_eq_decide]; omega
    rw [ez, ih]
    rfl
def lexG (gt : PyData → PyData → Bool) : List PyData → List PyData → Bool
  | [], [] => false
  | [], _ :: _ => false
  | _ :: _, [] => true
  | x :: xs, y :: ys => if PyData.eqv x y = true then lexG gt xs ys else gt x y
theorem lexAt_lexG (gt : PyData → PyData → Bool) : ∀ xs ys : List PyData,
    Ob.lexAt (fun j => PyData.eqv (xs.getD j .none) (ys.getD j .none)) (fun j => gt (xs.getD j .none) (ys.getD j .none)) (decide (ys.length < xs.length)) 0 (min xs.length ys.length) = lexG gt xs ys
  | [], [] => by rw [show min ([] : List PyData).length ([] : List PyData).length = 0 from rfl, Ob.lexAt_zero]; rfl
  | [], y :: ys => by rw [show min ([] : List PyData).length (y :: ys).length = 0 from Nat.zero_min _, Ob.lexAt_zero]; exact decide_eq_false (Nat.not_lt_zero _)
  | x :: xs, [] => by rw [show min (x :: xs).length ([] : List PyData).length = 0 from Nat.min_zero _, Ob.lexAt_zero]; exact decide_eq_true (Nat.succ_pos _)
  | x :: xs, y :: ys => by
    have e : min (x :: xs).length (y :: ys).length = min xs.length ys.length + 1 := by rw [List.length_cons, List.length_cons]; omega
    have ih := lexAt_lexG gt xs ys
    rw [e, Ob.lexAt_succ, lexAt_shift _ _ (fun j => PyData.eqv (xs.getD j .none) (ys.getD j .none)) (fun j => gt (xs.getD j .none) (ys.getD j .none)) _ _ 0 fun j _ => ⟨rfl, rfl⟩]
    have ez : decide ((y :: ys).length < (x :: xs).length) = decide (ys.length < xs.length) := by rw [List.length_cons, List.length_cons, decide_eq_decide]; omega
    rw [ez, ih]
    rfl
end
/-! Q7 -/
section
open PySem PySem.Spec PyProof.Rows
/-- what must be known of the items: the first unlike ones can be compared -/
def CmpAll (op : CmpOp) (A : Around) (s : Shared) (lt : PyData → PyData → Bool) (xs ys : List PyData) (us ws : List Value) : Prop :=
  ∀ (j : Nat) x y u w, xs[j]? = some x → ys[j]? = some y → us[j]? = some u → ws[j]? = some w → (∀ k, k < j → PyData.eqv (xs.getD k .none) (ys.getD k .none) = true) → PyData.eqv x y = false → Ob.RcOp op A.in1 s u w (lt x y)
section
variable {A : Around} {s : Shared} {p q : Addr} {xs ys : List PyData} {us ws : Array Value} {as bs : List Addr}
theorem items_eqAt2 (ra : ReadsAll s.heap us.toList xs as) (rb : ReadsAll s.heap ws.toList ys bs) (ha : PyData.canLayAll0 xs = true) (hb : PyData.canLayAll0 ys = true) (hu : A.in1.units + 64 < cLine) (hd : PyData.depthAll xs ≤ 64)
    (j : Nat) (k1 : j < us.size) (k2 : j < ws.size) : SeqAt.EqAt A.in1 s us[j] ws[j] (PyData.eqv (xs.getD j .none) (ys.getD j .none)) := by
  obtain ⟨c1, r1, l1, m1, d1⟩ := PySem.W.readsAll_atA ra j us[j] (by simp)
  obtain ⟨c2, r2, l2, m2, d2⟩ := PySem.W.readsAll_atA rb j ws[j] (by simp)
  exact SeqAt.eqAt_reads _ _ A.in1 s _ _ _ _ r1 r2 (PyData.canLay0_of_mem xs _ ha m1) (PyData.canLay0_of_mem ys _ hb m2) (by omega)

theorem tup_lt (gp : s.heap.IsTuple p us) (gq : s.heap.IsTuple q ws) (ra : ReadsAll s.heap us.toList xs as) (rb : ReadsAll s.heap ws.toList ys bs) (ha : PyData.canLayAll0 xs = true) (hb : PyData.canLayAll0 ys = true) (hu : A.in1.units + 64 < cLine) (hd : PyData.depthAll xs ≤ 64)
    (lt : PyData → PyData → Bool) (h : CmpAll .Lt A s lt xs ys us.toList ws.toList) : Ob.RcOp .Lt A s (.ref p) (.ref q) (lexD lt xs ys) := by
  have l1 : us.size = xs.length := by rw [← Array.length_toList]; exact SeqAt.ReadsAll.length _ _ _ ra
  have l2 : ws.size = ys.length := by rw [← Array.length_toList]; exact SeqAt.ReadsAll.length _ _ _ rb
  have hu0 : A.units < cLine := by
    have e : A.in1.units = A.units + 1 := rfl
    omega
  have z := tupFR_lt (e := fun j => PyData.eqv (xs.getD j .none) (ys.getD j .none)) (r := fun j => lt (xs.getD j .none) (ys.getD j .none)) gp gq hu0 (fun j k1 k2 => items_eqAt2 ra rb ha hb hu hd j k1 k2) (fun j k1 k2 hall hne => ?_)
  · rw [l1, l2, lexAt_lexD] at z
    exact z
  · have g1 : xs[j]? = some (xs.getD j .none) := by rw [List.getD_eq_getElem?_getD, List.getElem?_eq_getElem (by omega)]; rfl
    have g2 : ys[j]? = some (ys.getD j .none) := by rw [List.getD_eq_getElem?_getD, List.getElem?_eq_getElem (by omega)]; rfl
    exact h j _ _ us[j] ws[j] g1 g2 (by simp) (by simp) hall hne
theorem tup_gt (gp : s.heap.IsTuple p us) (gq : s.heap.IsTuple q ws) (ra : ReadsAll s.heap us.toList xs as) (rb : ReadsAll s.heap ws.toList ys bs) (ha : PyData.canLayAll0 xs = true) (hb : PyData.canLayAll0 ys = true) (hu : A.in1.units + 64 < cLine) (hd : PyData.depthAll xs ≤ 64)
    (lt : PyData → PyData → Bool) (h : CmpAll .Gt A s lt xs ys us.toList ws.toList) : Ob.RcOp .Gt A s (.ref p) (.ref q) (lexG lt xs ys) := by
  have l1 : us.size = xs.length := by rw [← Array.length_toList]; exact SeqAt.ReadsAll.length _ _ _ ra
  have l2 : ws.size = ys.length := by rw [← Array.length_toList]; exact SeqAt.ReadsAll.length _ _ _ rb
  have hu0 : A.units < cLine := by
    have e : A.in1.units = A.units + 1 := rfl
    omega
  have z := tupFR_gt (e := fun j => PyData.eqv (xs.getD j .none) (ys.getD j .none)) (r := fun j => lt (xs.getD j .none) (ys.getD j .none)) gp gq hu0 (fun j k1 k2 => items_eqAt2 ra rb ha hb hu hd j k1 k2) (fun j k1 k2 hall hne => ?_)
  · rw [l1, l2, lexAt_lexG] at z
    exact z
  · have g1 : xs[j]? = some (xs.getD j .none) := by rw [List.getD_eq_getElem?_getD, List.getElem?_eq_getElem (by omega)]; rfl
    have g2 : ys[j]? = some (ys.getD j .none) := by rw [List.getD_eq_getElem?_getD, List.getElem?_eq_getElem (by omega)]; rfl
    exact h j _ _ us[j] ws[j] g1 g2 (by simp) (by simp) hall hne
end
end
/-! Q8 -/
section
open PySem PySem.Spec PyProof.Rows PySem.SeqAt
theorem tupF_le (p q : Addr) (its jts : Array Value) (n n2 : Nat) (dd dd2 : Option Addr) (sl sl2 : Array (Option Value)) (e r : Nat → Bool) :
    Meets (Builtin.«tuple.__le__» ⟨[.ref p, .ref q], []⟩)
      (fun A R s => s.heap.get? p = some { cls := .type "tuple", dict := dd, data := .seq its n, slots := sl } ∧ s.heap.get? q = some { cls := .type "tuple", dict := dd2, data := .seq jts n2, slots := sl2 } ∧
        (∀ j (k1 : j < its.size) (k2 : j < jts.size), EqAt A.in1 s its[j] jts[j] (e j)) ∧
        (∀ j (k1 : j < its.size) (k2 : j < jts.size), (∀ k, k < j → e k = true) → e j = false → Ob.RcOp .LtE A.in1 s its[j] jts[j] (r j)) ∧
        R (.ok (.ret (.bool (Ob.lexAt e r (decide (its.size ≤ jts.size)) 0 (min its.size jts.size))))) s) :=
  .of_wp fun prog w A R s h => by
    obtain ⟨m0, gs, ds, ts, ws⟩ := s
    obtain ⟨gp, gq, he, hr, h⟩ := h
    have sub2 := AutoSeq1.sub_tuple_tuple
    have zl : (its.toList.zip jts.toList).length = min its.size jts.size := by simp
    wp_walk using wpAny_loadPart' gp, wpAny_loadPart' gq, wpAny_forIn_list _ (fun rest b s' => b.1 = none ∧ s' = ⟨m0, gs, ds, ts, ws⟩ ∧ ∃ i, (∀ k, k < i → e k = true) ∧ rest = (its.toList.zip jts.toList).drop i ∧
      R (.ok (.ret (.bool (Ob.lexAt e r (decide (its.size ≤ jts.size)) i (min its.size jts.size - i))))) ⟨m0, gs, ds, ts, ws⟩) _
    case turn =>
      rintro ⟨y, x⟩ rest b s' ⟨gb, rfl, i, hall, hz, hR⟩
      have hlt : i < (its.toList.zip jts.toList).length := by
        by_cases hh : i < (its.toList.zip jts.toList).length
        · exact hh
        · rw [List.drop_of_length_le (Nat.le_of_not_lt hh)] at hz; cases hz
      have hm : i < min its.size jts.size := zl ▸ hlt
      have k1 : i < its.size := Nat.lt_of_lt_of_le hm (Nat.min_le_left _ _)
      have k2 : i < jts.size := Nat.lt_of_lt_of_le hm (Nat.min_le_right _ _)
      rw [List.drop_eq_getElem_cons hlt] at hz
      injection hz with hyx hrest
      have ey : y = its[i] := by have := congrArg Prod.fst hyx; simpa using this
      have ex : x = jts[i] := by have := congrArg Prod.snd hyx; simpa using this
      subst ey ex
      rw [show min its.size jts.size - i = (min its.size jts.size - (i + 1)) + 1 by omega, Ob.lexAt_succ] at hR
      refine wpAny_bind (he i k1 k2 prog w _ _ ?_)
      cases hei : e i with
      | true =>
        rw [hei, if_pos rfl] at hR
        wp_walk
        refine ⟨rfl, rfl, i + 1, fun k hk => ?_, hrest, hR⟩
        by_cases hki : k = i
        · rw [hki]; exact hei
        · exact hall k (by omega)
      | false =>
        rw [hei, if_neg Bool.false_ne_true] at hR
        have go1 := hr i k1 k2 hall hei prog w
        wp_walk using go1
        exact ⟨_, rfl, by simpa using hR⟩
    case fin =>
      rintro ⟨b1, b2⟩ s' ⟨gb, rfl, i, hall, hz, hR⟩
      simp only at gb
      subst gb
      have hge : min its.size jts.size ≤ i := by
        by_cases hh : i < (its.toList.zip jts.toList).length
        · rw [List.drop_eq_getElem_cons hh] at hz; cases hz
        · rw [zl] at hh; omega
      rw [Nat.sub_eq_zero_of_le hge, Ob.lexAt_zero] at hR
      wp_walk
      exact ⟨_, rfl, by simpa [Builtin.Tuple.tupleCompareSizes] using hR⟩
    case h =>
      exact ⟨rfl, rfl, 0, fun k hk => absurd hk (by omega), rfl, by simpa using h⟩
theorem tupFR_le {A : Around} {s : Shared} {p q : Addr} {its jts : Array Value} {e r : Nat → Bool} (gp : s.heap.IsTuple p its) (gq : s.heap.IsTuple q jts) (hu : A.units < cLine)
    (he : ∀ j (k1 : j < its.size) (k2 : j < jts.size), EqAt A.in1 s its[j] jts[j] (e j))
    (hr : ∀ j (k1 : j < its.size) (k2 : j < jts.size), (∀ k, k < j → e k = true) → e j = false → Ob.RcOp .LtE A.in1 s its[j] jts[j] (r j)) :
    Ob.RcOp .LtE A s (.ref p) (.ref q) (Ob.lexAt e r (decide (its.size ≤ jts.size)) 0 (min its.size jts.size)) := fun prog w E Q h => by
  obtain ⟨⟨c1, d1, a1, s1⟩, o1, i1, n, j1⟩ := id gp
  obtain ⟨⟨c2, d2, a2, s2⟩, o2, i2, n2, j2⟩ := id gq
  simp only at i1 j1 i2 j2
  subst i1 j1 i2 j2
  exact richCompare_meets_room (op := .LtE) ⟨_, o1, rfl⟩ ⟨_, o2, rfl⟩ F.slot_tuple_le F.entry_tuple_le (F.args_tuple_le_2 _ _) (tupF_le p q its jts n n2 d1 d2 s1 s2 e r) ⟨o1, o2, he, hr, ⟨(fun x => nomatch x), h⟩⟩ hu

theorem tupF_ge (p q : Addr) (its jts : Array Value) (n n2 : Nat) (dd dd2 : Option Addr) (sl sl2 : Array (Option Value)) (e r : Nat → Bool) :
    Meets (Builtin.«tuple.__ge__» ⟨[.ref p, .ref q], []⟩)
      (fun A R s => s.heap.get? p = some { cls := .type "tuple", dict := dd, data := .seq its n, slots := sl } ∧ s.heap.get? q = some { cls := .type "tuple", dict := dd2, data := .seq jts n2, slots := sl2 } ∧
        (∀ j (k1 : j < its.size) (k2 : j < jts.size), EqAt A.in1 s its[j] jts[j] (e j)) ∧
        (∀ j (k1 : j < its.size) (k2 : j < jts.size), (∀ k, k < j → e k = true) → e j = false → Ob.RcOp .GtE A.in1 s its[j] jts[j] (r j)) ∧
        R (.ok (.ret (.bool (Ob.lexAt e r (decide (jts.size ≤ its.size)) 0 (min its.size jts.size))))) s) :=
  .of_wp fun prog w A R s h => by
    obtain ⟨m0, gs, ds, ts, ws⟩ := s
    obtain ⟨gp, gq, he, hr, h⟩ := h
    have sub2 := AutoSeq1.sub_tuple_tuple
    have zl : (its.toList.zip jts.toList).length = min its.size jts.size := by simp
    wp_walk using wpAny_loadPart' gp, wpAny_loadPart' gq, wpAny_forIn_list _ (fun rest b s' => b.1 = none ∧ s' = ⟨m0, gs, ds, ts, ws⟩ ∧ ∃ i, (∀ k, k < i → e k = true) ∧ rest = (its.toList.zip jts.toList).drop i ∧
      R (.ok (.ret (.bool (Ob.lexAt e r (decide (jts.size ≤ its.size)) i (min its.size jts.size - i))))) ⟨m0, gs, ds, ts, ws⟩) _
    case turn =>
      rintro ⟨y, x⟩ rest b s' ⟨gb, rfl, i, hall, hz, hR⟩
      have hlt : i < (its.toList.zip jts.toList).length := by
        by_cases hh : i < (its.toList.zip jts.toList).length
        · exact hh
        · rw [List.drop_of_length_le (Nat.le_of_not_lt hh)] at hz; cases hz
      have hm : i < min its.size jts.size := zl ▸ hlt
      have k1 : i < its.size := Nat.lt_of_lt_of_le hm (Nat.min_le_left _ _)
      have k2 : i < jts.size := Nat.lt_of_lt_of_le hm (Nat.min_le_right _ _)
      rw [List.drop_eq_getElem_cons hlt] at hz
      injection hz with hyx hrest
      have ey : y = its[i] := by have := congrArg Prod.fst hyx; simpa using this
      have ex : x = jts[i] := by have := congrArg Prod.snd hyx; simpa using this
      subst ey ex
      rw [show min its.size jts.size - i = (min its.size jts.size - (i + 1)) + 1 by omega, Ob.lexAt_succ] at hR
      refine wpAny_bind (he i k1 k2 prog w _ _ ?_)
      cases hei : e i with
      | true =>
        rw [hei, if_pos rfl] at hR
        wp_walk
        refine ⟨rfl, rfl, i + 1, fun k hk => ?_, hrest, hR⟩
        by_cases hki : k = i
        · rw [hki]; exact hei
        · exact hall k (by omega)
      | false =>
        rw [hei, if_neg Bool.false_ne_true] at hR
        have go1 := hr i k1 k2 hall hei prog w
        wp_walk using go1
        exact ⟨_, rfl, by simpa using hR⟩
    case fin =>
      rintro ⟨b1, b2⟩ s' ⟨gb, rfl, i, hall, hz, hR⟩
      simp only at gb
      subst gb
      have hge : min its.size jts.size ≤ i := by
        by_cases hh : i < (its.toList.zip jts.toList).length
        · rw [List.drop_eq_getElem_cons hh] at hz; cases hz
        · rw [zl] at hh; omega
      rw [Nat.sub_eq_zero_of_le hge, Ob.lexAt_zero] at hR
      wp_walk
      exact ⟨_, rfl, by simpa [Builtin.Tuple.tupleCompareSizes] using hR⟩
    case h =>
      exact ⟨rfl, rfl, 0, fun k hk => absurd hk (by omega), rfl, by simpa using h⟩
theorem tupFR_ge {A : Around} {s : Shared} {p q : Addr} {its jts : Array Value} {e r : Nat → Bool} (gp : s.heap.IsTuple p its) (gq : s.heap.IsTuple q jts) (hu : A.units < cLine)
    (he : ∀ j (k1 : j < its.size) (k2 : j < jts.size), EqAt A.in1 s its[j] jts[j] (e j))
    (hr : ∀ j (k1 : j < its.size) (k2 : j < jts.size), (∀ k, k < j → e k = true) → e j = false → Ob.RcOp .GtE A.in1 s its[j] jts[j] (r j)) :
    Ob.RcOp .GtE A s (.ref p) (.ref q) (Ob.lexAt e r (decide (jts.size ≤ its.size)) 0 (min its.size jts.size)) := fun prog w E Q h => by
  obtain ⟨⟨c1, d1, a1, s1⟩, o1, i1, n, j1⟩ := id gp
  obtain ⟨⟨c2, d2, a2, s2⟩, o2, i2, n2, j2⟩ := id gq
  simp only at i1 j1 i2 j2
  subst i1 j1 i2 j2
  exact richCompare_meets_room (op := .GtE) ⟨_, o1, rfl⟩ ⟨_, o2, rfl⟩ F.slot_tuple_ge F.entry_tuple_ge (F.args_tuple_ge_2 _ _) (tupF_ge p q its jts n n2 d1 d2 s1 s2 e r) ⟨o1, o2, he, hr, ⟨(fun x => nomatch x), h⟩⟩ hu
/-- the four orders -/
inductive Cm where
  | lt | le | gt | ge
def Cm.op : Cm → CmpOp
  | .lt => .Lt | .le => .LtE | .gt => .Gt | .ge => .GtE
def Cm.int : Cm → Int → Int → Bool
  | .lt, a, b => decide (a < b)
  | .le, a, b => decide (a ≤ b)
  | .gt, a, b => decide (b < a)
  | .ge, a, b => decide (b ≤ a)
def Cm.str : Cm → Str → Str → Bool
  | .lt, a, b => decide (a.cps.toList < b.cps.toList)
  | .le, a, b => !decide (b.cps.toList < a.cps.toList)
  | .gt, a, b => decide (b.cps.toList < a.cps.toList)
  | .ge, a, b => !decide (a.cps.toList < b.cps.toList)
/-- by the lengths alone -/
def Cm.len : Cm → Nat → Nat → Bool
  | .lt, a, b => decide (a < b)
  | .le, a, b => decide (a ≤ b)
  | .gt, a, b => decide (b < a)
  | .ge, a, b => decide (b ≤ a)
def cmpL (o : Cm) (f : PyData → PyData → Option Bool) : List PyData → List PyData → Option Bool
  | [], [] => some (o.len 0 0)
  | [], _ :: _ => some (o.len 0 1)
  | _ :: _, [] => some (o.len 1 0)
  | x :: xs, y :: ys => if PyData.eqv x y = true then cmpL o f xs ys else f x y
def cmpO (o : Cm) : Nat → PyData → PyData → Option Bool
  | _, .int a, .int b => some (o.int a b)
  | _, .str a, .str b => some (o.str a b)
  | k + 1, .tuple xs, .tuple ys => cmpL o (cmpO o k) xs ys
  | _, _, _ => none
theorem Cm.len_succ (o : Cm) (a b : Nat) : o.len (a + 1) (b + 1) = o.len a b := by cases o <;> simp [Cm.len]
theorem lexAt_cmpL (o : Cm) (f : PyData → PyData → Option Bool) : ∀ (xs ys : List PyData) (r : Bool), cmpL o f xs ys = some r →
    Ob.lexAt (fun j => PyData.eqv (xs.getD j .none) (ys.getD j .none)) (fun j => (f (xs.getD j .none) (ys.getD j .none)).getD false) (o.len xs.length ys.length) 0 (min xs.length ys.length) = r ∧
    ∀ (j : Nat), j < min xs.length ys.length → (∀ k, k < j → PyData.eqv (xs.getD k .none) (ys.getD k .none) = true) → PyData.eqv (xs.getD j .none) (ys.getD j .none) = false → ∃ b, f (xs.getD j .none) (ys.getD j .none) = some b
  | [], [], r, h => by
    simp only [cmpL, Option.some.injEq] at h
    refine ⟨?_, fun j hj => absurd hj (by simp)⟩
    rw [show min ([] : List PyData).length ([] : List PyData).length = 0 from rfl, Ob.lexAt_zero]; exact h
  | [], y :: ys, r, h => by
    simp only [cmpL, Option.some.injEq] at h
    refine ⟨?_, fun j hj => absurd hj (by simp)⟩
    rw [show min ([] : List PyData).length (y :: ys).length = 0 from Nat.zero_min _, Ob.lexAt_zero, ← h]
    cases o <;> simp [Cm.len]
  | x :: xs, [], r, h => by
    simp only [cmpL, Option.some.injEq] at h
    refine ⟨?_, fun j hj => absurd hj (by simp)⟩
    rw [show min (x :: xs).length ([] : List PyData).length = 0 from Nat.min_zero _, Ob.lexAt_zero, ← h]
    cases o <;> simp [Cm.len]
  | x :: xs, y :: ys, r, h => by
    have e : min (x :: xs).length (y :: ys).length = min xs.length ys.length + 1 := by rw [List.length_cons, List.length_cons]; omega
    rw [cmpL] at h
    by_cases hq : PyData.eqv x y = true
    · rw [if_pos hq] at h
      obtain ⟨h1, h2⟩ := lexAt_cmpL o f xs ys r h
      refine ⟨?_, fun j hj hall hne => ?_⟩
      · rw [e, Ob.lexAt_succ, lexAt_shift _ _ (fun j => PyData.eqv (xs.getD j .none) (ys.getD j .none)) (fun j => (f (xs.getD j .none) (ys.getD j .none)).getD false) _ _ 0 fun j _ => ⟨rfl, rfl⟩, List.length_cons, List.length_cons, Cm.len_succ]
        rw [if_pos (show PyData.eqv ((x :: xs).getD 0 .none) ((y :: ys).getD 0 .none) = true from hq)]
        exact h1
      · cases j with
        | zero =>
          have : PyData.eqv x y = false := hne
          rw [hq] at this; cases this
        | succ j => exact h2 j (by omega) (fun k hk => hall (k + 1) (by omega)) hne
    · rw [if_neg hq] at h
      refine ⟨?_, fun j hj hall hne => ?_⟩
      · rw [e, Ob.lexAt_succ]
        rw [if_neg (show ¬ PyData.eqv ((x :: xs).getD 0 .none) ((y :: ys).getD 0 .none) = true from hq)]
        show (f x y).getD false = r
        rw [h]; rfl
      · cases j with
        | zero => exact ⟨r, h⟩
        | succ j => exact absurd (hall 0 (Nat.succ_pos _)) hq
theorem reads_tup {h : Heap} {v : Value} {xs : List PyData} {as : List Addr} (r : Reads h v (.tuple xs) as) : ∃ p us as', v = .ref p ∧ h.IsTuple p us ∧ ReadsAll h us.toList xs as' := by
  cases r with
  | tuple e c d a => exact ⟨_, _, _, rfl, ⟨_, e, c, _, d⟩, a⟩
theorem rc_tup (o : Cm) {A : Around} {s : Shared} {p q : Addr} {its jts : Array Value} {e r : Nat → Bool} (gp : s.heap.IsTuple p its) (gq : s.heap.IsTuple q jts) (hu : A.units < cLine)
    (he : ∀ j (k1 : j < its.size) (k2 : j < jts.size), EqAt A.in1 s its[j] jts[j] (e j))
    (hr : ∀ j (k1 : j < its.size) (k2 : j < jts.size), (∀ k, k < j → e k = true) → e j = false → Ob.RcOp o.op A.in1 s its[j] jts[j] (r j)) :
    Ob.RcOp o.op A s (.ref p) (.ref q) (Ob.lexAt e r (o.len its.size jts.size) 0 (min its.size jts.size)) := by
  cases o
  · exact tupFR_lt gp gq hu he hr
  · exact tupFR_le gp gq hu he hr
  · exact tupFR_gt gp gq hu he hr
  · exact tupFR_ge gp gq hu he hr
theorem rc_cmpO (o : Cm) : ∀ (k : Nat) (da db : PyData) (A : Around) (s : Shared) (a b : Value) (as bs : List Addr) (r : Bool), Reads s.heap a da as → Reads s.heap b db bs → da.canLay0 = true → db.canLay0 = true → da.depth ≤ 64 → A.units + k + 100 < cLine →
    cmpO o k da db = some r → Ob.RcOp o.op A s a b r := by
  have base : ∀ (k : Nat) (da db : PyData) (A : Around) (s : Shared) (a b : Value) (as bs : List Addr) (r : Bool), Reads s.heap a da as → Reads s.heap b db bs → A.units + k + 100 < cLine → (∃ x y, da = .int x ∧ db = .int y ∧ r = o.int x y) ∨ (∃ x y, da = .str x ∧ db = .str y ∧ r = o.str x y) → Ob.RcOp o.op A s a b r := by
    intro k da db A s a b as bs r ra rb hu hh
    rcases hh with ⟨x, y, rfl, rfl, rfl⟩ | ⟨x, y, rfl, rfl, rfl⟩
    · have al : PySem.W.alike (.int x) (.int y) = true := by simp [PySem.W.alike]
      have hn : (PyData.int x) ≠ .none := by intro z; cases z
      have hz : A.units + min (PyData.int x).depth (PyData.int y).depth < cLine := by simp only [PyData.depth]; omega
      have e : ∀ x y : Int, PySem.W.dataLt (.int x) (.int y) = decide (x < y) := fun x y => by
        exact PySem.W.dataLt_int x y
      cases o
      · have := PySem.W.rcLt_alike (.int x) (.int y) A s a b as bs ra rb al hn hz
        rw [e] at this; exact this
      · have := PySem.W.rcLe_alike (.int x) (.int y) A s a b as bs ra rb al hn hz
        rw [e, PySem.W.cmp_not_lt] at this; exact this
      · have := PySem.W.rcGt_alike (.int x) (.int y) A s a b as bs ra rb al hn hz
        rw [e] at this; exact this
      · have := PySem.W.rcGe_alike (.int x) (.int y) A s a b as bs ra rb al hn hz
        rw [e, PySem.W.cmp_not_lt] at this; exact this
    · have al : PySem.W.alike (.str x) (.str y) = true := by simp [PySem.W.alike]
      have hn : (PyData.str x) ≠ .none := by intro z; cases z
      have hz : A.units + min (PyData.str x).depth (PyData.str y).depth < cLine := by simp only [PyData.depth]; omega
      cases o
      · have := PySem.W.rcLt_alike (.str x) (.str y) A s a b as bs ra rb al hn hz
        rw [PySem.W.dataLt_str] at this; exact this
      · have := PySem.W.rcLe_alike (.str x) (.str y) A s a b as bs ra rb al hn hz
        rw [PySem.W.dataLt_str] at this; exact this
      · have := PySem.W.rcGt_alike (.str x) (.str y) A s a b as bs ra rb al hn hz
        rw [PySem.W.dataLt_str] at this; exact this
      · have := PySem.W.rcGe_alike (.str x) (.str y) A s a b as bs ra rb al hn hz
        rw [PySem.W.dataLt_str] at this; exact this
  intro k
  induction k with
  | zero =>
    intro da db A s a b as bs r ra rb la lb hd hu h
    refine base 0 da db A s a b as bs r ra rb hu ?_
    unfold cmpO at h
    split at h
    · cases h; exact .inl ⟨_, _, rfl, rfl, rfl⟩
    · cases h; exact .inr ⟨_, _, rfl, rfl, rfl⟩
    · cases ‹0 = _ + 1›
    · cases h
  | succ k ih =>
    intro da db A s a b as bs r ra rb la lb hd hu h
    unfold cmpO at h
    split at h
    · cases h; exact base 0 _ _ A s a b as bs _ ra rb (by omega) (.inl ⟨_, _, rfl, rfl, rfl⟩)
    · cases h; exact base 0 _ _ A s a b as bs _ ra rb (by omega) (.inr ⟨_, _, rfl, rfl, rfl⟩)
    · rename_i k' xs ys hk
      cases hk
      obtain ⟨h1, h2⟩ := lexAt_cmpL o _ xs ys r h
      obtain ⟨p, us, as', rfl, gp, ra'⟩ := reads_tup ra
      obtain ⟨q, ws, bs', rfl, gq, rb'⟩ := reads_tup rb
      have l1 : us.size = xs.length := by rw [← Array.length_toList]; exact SeqAt.ReadsAll.length _ _ _ ra'
      have l2 : ws.size = ys.length := by rw [← Array.length_toList]; exact SeqAt.ReadsAll.length _ _ _ rb'
      have ha : PyData.canLayAll0 xs = true := by simpa only [PyData.canLay0] using la
      have hb : PyData.canLayAll0 ys = true := by simpa only [PyData.canLay0] using lb
      have hd' : PyData.depthAll xs ≤ 64 := by simp only [PyData.depth] at hd; omega
      have eu : A.in1.units = A.units + 1 := rfl
      have z := rc_tup o (A := A) (e := fun j => PyData.eqv (xs.getD j .none) (ys.getD j .none)) (r := fun j => (cmpO o k (xs.getD j .none) (ys.getD j .none)).getD false) gp gq (by omega) (fun j k1 k2 => items_eqAt2 ra' rb' ha hb (by omega) hd' j k1 k2) (fun j k1 k2 hall hne => ?_)
      · rw [l1, l2, h1] at z
        exact z
      · obtain ⟨b', hb'⟩ := h2 j (by omega) hall hne
        obtain ⟨c1, r1, m1, n1, d1⟩ := PySem.W.readsAll_atA ra' j us[j] (by simp)
        obtain ⟨c2, r2, m2, n2, d2⟩ := PySem.W.readsAll_atA rb' j ws[j] (by simp)
        show Ob.RcOp o.op A.in1 s us[j] ws[j] ((cmpO o k (xs.getD j .none) (ys.getD j .none)).getD false)
        rw [hb']
        exact ih _ _ A.in1 s _ _ _ _ b' r1 r2 (PyData.canLay0_of_mem xs _ ha n1) (PyData.canLay0_of_mem ys _ hb n2) (by omega) (by omega) hb'
    · cases h
end
/-! N0 -/
section
open PySem PySem.Spec PyProof.Rows
/-- a plain value: trees that never change, and references to cells of the store -/
inductive P where
  | non
  | bl (b : Bool)
  | int (i : Int)
  | str (x : Str)
  | ty (n : String)
  | cls (c : Str)
  | tup (xs : List P)
  | lst (xs : List P)
  | xls (xs : List P)
  | dK (kvs : List (Key × P))
  | dT (kvs : List (List Key × P))
  | obj (C : Str) (fs : List (Str × P))
  | cell (n : Nat)
  deriving Inhabited
inductive Cell where
  | lst (xs : List P)
  | dK (kvs : List (Key × P))
  | dT (kvs : List (List Key × P))
  | ins (C : Str) (fs : List (Str × P))
  deriving Inhabited
abbrev M := List Cell
abbrev Env := List (Option P)
inductive Res (β : Type) where
  | ok (d : β) (m : M)
  | exc (c : Str) (fs : List (Str × P)) (m : M)
  | stuck
inductive Out where
  | nx (ρ : Env) (m : M)
  | rt (d : P) (m : M)
  | bk (ρ : Env) (m : M)
  | ct (ρ : Env) (m : M)
  | exc (c : Str) (fs : List (Str × P)) (ρ : Env) (m : M)
  | stuck
def Res.bind {β δ : Type} (r : Res β) (k : β → M → Res δ) : Res δ := match r with
  | .ok d m => k d m
  | .exc c fs m => .exc c fs m
  | .stuck => .stuck
def Res.outs {β : Type} (r : Res β) (ρ : Env) (k : β → M → Out) : Out := match r with
  | .ok d m => k d m
  | .exc c fs m => .exc c fs ρ m
  | .stuck => .stuck
abbrev FE := Env → M → Res P
abbrev FA := Env → M → Res (List P)
abbrev FT := Env → M → Res Bool
abbrev FS := Env → M → Out
abbrev FG := P → Env → M → Option Env
abbrev FN := List P → M → Res P

section
variable (K : PySem.W.Frag) (F : Addr → Prop) (α : List Addr) (H : Hp)
mutual
inductive Rp : P → V → Prop
  | non : Rp .non .non
  | bl (b : Bool) : Rp (.bl b) (.bl b)
  | int (i : Int) : Rp (.int i) (.int i)
  | str (x : Str) : Rp (.str x) (.str x)
  | ty (n : String) : Rp (.ty n) (.ty n)
  | cls (c : Str) : Rp (.cls c) (.ref (He.ga K c))
  | tup {a : Addr} {xs : List P} {vs : List V} : F a → H a = some (.tup vs) → Rps xs vs → Rp (.tup xs) (.ref a)
  | lst {a : Addr} {xs : List P} {vs : List V} : F a → H a = some (.lst vs) → Rps xs vs → Rp (.lst xs) (.ref a)
  | xls {a : Addr} {xs : List P} {vs : List V} : ((F a ∧ Rd H a (.lst vs)) ∨ ∀ H1, SqL K H1 a vs) → Rps xs vs → Rp (.xls xs) (.ref a)
  | dK {a : Addr} {kvs : List (Key × P)} {ws : List (Key × V)} : F a → H a = some (.dK ws) → kvs.map (·.1) = ws.map (·.1) → Rps (kvs.map (·.2)) (ws.map (·.2)) → Rp (.dK kvs) (.ref a)
  | dT {a : Addr} {kvs : List (List Key × P)} {ws : List (List Key × V)} : F a → H a = some (.dT ws) → kvs.map (·.1) = ws.map (·.1) → Rps (kvs.map (·.2)) (ws.map (·.2)) → Rp (.dT kvs) (.ref a)
  | obj {a dx : Addr} {C : Str} {fs : List (Str × P)} {ws : List (Str × V)} : F a → H a = some (.ins (He.ga K C) dx ws) → fs.map (·.1) = ws.map (·.1) → Rps (fs.map (·.2)) (ws.map (·.2)) → Rp (.obj C fs) (.ref a)
  | cell {n : Nat} {a : Addr} : α[n]? = some a → Rp (.cell n) (.ref a)
inductive Rps : List P → List V → Prop
  | nil : Rps [] []
  | cons {d : P} {ds : List P} {v : V} {vs : List V} : Rp d v → Rps ds vs → Rps (d :: ds) (v :: vs)
end
def CellR : Cell → HO → Prop
  | .lst xs, .lst vs => Rps K F α H xs vs
  | .dK kvs, .dK ws => kvs.map (·.1) = ws.map (·.1) ∧ Rps K F α H (kvs.map (·.2)) (ws.map (·.2))
  | .dT kvs, .dT ws => kvs.map (·.1) = ws.map (·.1) ∧ Rps K F α H (kvs.map (·.2)) (ws.map (·.2))
  | .ins C fs, .ins C' _ ws => C' = He.ga K C ∧ fs.map (·.1) = ws.map (·.1) ∧ Rps K F α H (fs.map (·.2)) (ws.map (·.2))
  | _, _ => False
def EnvR (ρ : Env) (σ : St) : Prop := ρ.length = σ.length ∧ ∀ (i : Nat) (d : P), ρ[i]? = some (some d) → ∃ v, σ[i]? = some (some v) ∧ Rp K F α H d v
end
/-- the store is laid out in the heap -/
structure Wk (K : PySem.W.Frag) (F : Addr → Prop) (α : List Addr) (m : M) (H : Hp) : Prop where
  len : α.length = m.length
  nd : α.Nodup
  nf : ∀ a, a ∈ α → ¬ F a
  fr : ∀ a, F a → ∃ o, H a = some o
  at_ : ∀ (n : Nat) (c : Cell) (a : Addr), m[n]? = some c → α[n]? = some a → ∃ o, H a = some o ∧ CellR K F α H c o
/-- how the heap may go on -/
structure Ex (F : Addr → Prop) (α : List Addr) (H : Hp) (F' : Addr → Prop) (α' : List Addr) (H' : Hp) : Prop where
  f : ∀ a, F a → F' a
  al : ∃ l, α' = α ++ l
  k : ∀ a o, H a = some o → a ∉ α → H' a = some o
  new : ∀ a, a ∈ α' → a ∉ α → H a = none
  fn : ∀ a o, F' a → H a = some o → a ∉ α → F a
/-- what trees and references lean on stays -/
structure Sub (F : Addr → Prop) (α : List Addr) (H : Hp) (F' : Addr → Prop) (α' : List Addr) (H' : Hp) : Prop where
  f : ∀ a, F a → F' a
  al : ∀ (n : Nat) (a : Addr), α[n]? = some a → α'[n]? = some a
  k : ∀ a o, F a → H a = some o → H' a = some o

section
variable {K : PySem.W.Frag} {F F' F'' : Addr → Prop} {α α' α'' : List Addr} {H H' H'' : Hp} {m m' : M}
theorem Ex.refl : Ex F α H F α H := ⟨fun _ h => h, ⟨[], (List.append_nil _).symm⟩, fun _ _ e _ => e, fun _ h n => absurd h n, fun _ _ h _ _ => h⟩
theorem Ex.trans (a : Ex F α H F' α' H') (b : Ex F' α' H' F'' α'' H'') : Ex F α H F'' α'' H'' := by
  refine ⟨fun x h => b.f x (a.f x h), ?_, fun x o e n => ?_, fun x hx n => ?_, fun x o hf e n => a.fn x o (b.fn x o hf (a.k x o e n) fun hx => by have := a.new x hx n; rw [e] at this; cases this) e n⟩
  · obtain ⟨l, rfl⟩ := a.al
    obtain ⟨l', rfl⟩ := b.al
    exact ⟨l ++ l', List.append_assoc _ _ _⟩
  · refine b.k x o (a.k x o e n) fun hx => ?_
    have := a.new x hx n
    rw [e] at this; cases this
  · by_cases h1 : x ∈ α'
    · exact a.new x h1 n
    · have h2 := b.new x hx h1
      cases e : H x with
      | none => rfl
      | some o => rw [a.k x o e n] at h2; cases h2
theorem Rd.some {a : Addr} {u : HO} (r : Rd H a u) : ∃ o, H a = some o := by
  rcases r with r | ⟨o, r⟩
  · exact ⟨_, r⟩
  · exact ⟨_, r⟩
theorem al_get {n : Nat} {a : Addr} (h : α[n]? = some a) (e : Ex F α H F' α' H') : α'[n]? = some a := by
  obtain ⟨l, rfl⟩ := e.al
  rw [List.getElem?_append_left (List.getElem?_eq_some_iff.mp h).1]
  exact h
theorem Ex.sub (nf : ∀ a, a ∈ α → ¬ F a) (e : Ex F α H F' α' H') : Sub F α H F' α' H' := ⟨e.f, fun n a h => al_get h e, fun a o h1 h2 => e.k a o h2 fun n => nf a n h1⟩
mutual
theorem Rp.sub (e : Sub F α H F' α' H') : ∀ {d : P} {v : V}, Rp K F α H d v → Rp K F' α' H' d v
  | _, _, .non => .non
  | _, _, .bl b => .bl b
  | _, _, .int i => .int i
  | _, _, .str x => .str x
  | _, _, .ty n => .ty n
  | _, _, .cls c => .cls c
  | _, _, .tup h1 h2 h3 => .tup (e.f _ h1) (e.k _ _ h1 h2) (Rps.sub e h3)
  | _, _, .lst h1 h2 h3 => .lst (e.f _ h1) (e.k _ _ h1 h2) (Rps.sub e h3)
  | _, _, .xls h1 h3 => .xls (h1.imp (fun h => ⟨e.f _ h.1, h.2.imp (fun r => e.k _ _ h.1 r) fun ⟨o, r⟩ => ⟨o, e.k _ _ h.1 r⟩⟩) id) (Rps.sub e h3)
  | _, _, .dK h1 h2 h3 h4 => .dK (e.f _ h1) (e.k _ _ h1 h2) h3 (Rps.sub e h4)
  | _, _, .dT h1 h2 h3 h4 => .dT (e.f _ h1) (e.k _ _ h1 h2) h3 (Rps.sub e h4)
  | _, _, .obj h1 h2 h3 h4 => .obj (e.f _ h1) (e.k _ _ h1 h2) h3 (Rps.sub e h4)
  | _, _, .cell h => .cell (e.al _ _ h)
theorem Rps.sub (e : Sub F α H F' α' H') : ∀ {d : List P} {v : List V}, Rps K F α H d v → Rps K F' α' H' d v
  | _, _, .nil => .nil
  | _, _, .cons h t => .cons (Rp.sub e h) (Rps.sub e t)
end
theorem CellR.sub (e : Sub F α H F' α' H') {c : Cell} {o : HO} (h : CellR K F α H c o) : CellR K F' α' H' c o := by
  cases c <;> cases o <;> first | exact h.elim | skip
  · exact Rps.sub e h
  · exact ⟨h.1, Rps.sub e h.2⟩
  · exact ⟨h.1, Rps.sub e h.2⟩
  · exact ⟨h.1, h.2.1, Rps.sub e h.2.2⟩
theorem EnvR.sub (e : Sub F α H F' α' H') {ρ : Env} {σ : St} (h : EnvR K F α H ρ σ) : EnvR K F' α' H' ρ σ :=
  ⟨h.1, fun i d hd => let ⟨v, h1, h2⟩ := h.2 i d hd; ⟨v, h1, h2.sub e⟩⟩
theorem Rp.mono (nf : ∀ a, a ∈ α → ¬ F a) (e : Ex F α H F' α' H') {d : P} {v : V} (h : Rp K F α H d v) : Rp K F' α' H' d v := h.sub (e.sub nf)
theorem Rps.mono (nf : ∀ a, a ∈ α → ¬ F a) (e : Ex F α H F' α' H') {d : List P} {v : List V} (h : Rps K F α H d v) : Rps K F' α' H' d v := h.sub (e.sub nf)
theorem CellR.mono (nf : ∀ a, a ∈ α → ¬ F a) (e : Ex F α H F' α' H') {c : Cell} {o : HO} (h : CellR K F α H c o) : CellR K F' α' H' c o := h.sub (e.sub nf)
theorem EnvR.mono (nf : ∀ a, a ∈ α → ¬ F a) (e : Ex F α H F' α' H') {ρ : Env} {σ : St} (h : EnvR K F α H ρ σ) : EnvR K F' α' H' ρ σ := h.sub (e.sub nf)
theorem Rps.length : ∀ {d : List P} {v : List V}, Rps K F α H d v → d.length = v.length
  | _, _, .nil => rfl
  | _, _, .cons _ t => congrArg (· + 1) (Rps.length t)
theorem Rps.append : ∀ {d e : List P} {v w : List V}, Rps K F α H d v → Rps K F α H e w → Rps K F α H (d ++ e) (v ++ w)
  | _, _, _, _, .nil, h => h
  | _, _, _, _, .cons h t, h' => .cons h (Rps.append t h')
theorem Rps.get : ∀ {d : List P} {v : List V} {i : Nat} {x : P}, Rps K F α H d v → d[i]? = some x → ∃ w, v[i]? = some w ∧ Rp K F α H x w
  | _, _, _, _, .nil, e => by simp at e
  | _, _, 0, _, .cons h t, e => by
    rw [List.getElem?_cons_zero] at e; cases e
    exact ⟨_, rfl, h⟩
  | _, _, i + 1, x, .cons h t, e => by
    obtain ⟨w, h1, h2⟩ := Rps.get (i := i) (x := x) t (by simpa using e)
    exact ⟨w, by simpa using h1, h2⟩
theorem Rps.getv : ∀ {d : List P} {v : List V} {i : Nat} {w : V}, Rps K F α H d v → v[i]? = some w → ∃ x, d[i]? = some x ∧ Rp K F α H x w
  | _, _, _, _, .nil, e => by simp at e
  | _, _, 0, _, .cons h t, e => by
    rw [List.getElem?_cons_zero] at e; cases e
    exact ⟨_, rfl, h⟩
  | _, _, i + 1, x, .cons h t, e => by
    obtain ⟨w, h1, h2⟩ := Rps.getv (i := i) (w := x) t (by simpa using e)
    exact ⟨w, by simpa using h1, h2⟩
theorem Rps.set {x : P} {w : V} (r : Rp K F α H x w) : ∀ {d : List P} {v : List V} (i : Nat), Rps K F α H d v → Rps K F α H (d.set i x) (v.set i w)
  | _, _, _, .nil => .nil
  | _, _, 0, .cons h t => .cons r t
  | _, _, i + 1, .cons h t => .cons h (Rps.set r i t)
theorem Rps.take : ∀ {d : List P} {v : List V} (n : Nat), Rps K F α H d v → Rps K F α H (d.take n) (v.take n)
  | _, _, 0, _ => .nil
  | _, _, n + 1, .nil => .nil
  | _, _, n + 1, .cons h t => .cons h (Rps.take n t)
theorem Rps.drop : ∀ {d : List P} {v : List V} (n : Nat), Rps K F α H d v → Rps K F α H (d.drop n) (v.drop n)
  | _, _, 0, h => h
  | _, _, n + 1, .nil => .nil
  | _, _, n + 1, .cons h t => Rps.drop n t
theorem Rps.one {x : P} {w : V} (r : Rp K F α H x w) : Rps K F α H [x] [w] := .cons r .nil
theorem Rps.reverse : ∀ {d : List P} {v : List V}, Rps K F α H d v → Rps K F α H d.reverse v.reverse
  | _, _, .nil => .nil
  | _, _, .cons h t => by rw [List.reverse_cons, List.reverse_cons]; exact (Rps.reverse t).append (.one h)
theorem Rps.replicate {x : P} {w : V} (r : Rp K F α H x w) : ∀ n, Rps K F α H (List.replicate n x) (List.replicate n w)
  | 0 => .nil
  | n + 1 => .cons r (Rps.replicate r n)
theorem Rps.ints (l : List Int) : Rps K F α H (l.map P.int) (l.map V.int) := by
  induction l with
  | nil => exact .nil
  | cons a l ih => exact .cons (.int a) ih
/-! ### the store grows, changes -/
theorem Wk.fz (W : Wk K F α m H) {p : Addr} {o : HO} (h : H p = none) : Ex F α H (fun a => F a ∨ a = p) α (upd H p o) ∧ Wk K (fun a => F a ∨ a = p) α m (upd H p o) := by
  have e : Ex F α H (fun a => F a ∨ a = p) α (upd H p o) := ⟨fun _ h => .inl h, ⟨[], (List.append_nil _).symm⟩, fun a u e _ => by rw [upd_ne (ne_of_none e h)]; exact e, fun _ h n => absurd h n, fun a o hf ho _ => hf.elim id fun q => by rw [q, h] at ho; cases ho⟩
  have np : ∀ a, a ∈ α → a ≠ p := fun a ha => by
    obtain ⟨n, hn⟩ := List.getElem?_of_mem ha
    have hl := (List.getElem?_eq_some_iff.mp hn).1
    rw [W.len] at hl
    obtain ⟨o, ho, _⟩ := W.at_ n _ a (List.getElem?_eq_getElem hl) hn
    exact ne_of_none ho h
  refine ⟨e, W.len, W.nd, fun a ha hf => ?_, fun a hf => ?_, fun n c a hn ha => ?_⟩
  · rcases hf with hf | hf
    · exact W.nf a ha hf
    · exact np a ha hf
  · rcases hf with hf | hf
    · obtain ⟨o', ho⟩ := W.fr a hf
      exact ⟨o', by rw [upd_ne (ne_of_none ho h)]; exact ho⟩
    · subst hf; exact ⟨_, upd_same⟩
  · obtain ⟨o', ho, hc⟩ := W.at_ n c a hn ha
    exact ⟨o', by rw [upd_ne (ne_of_none ho h)]; exact ho, hc.mono W.nf e⟩
theorem Wk.has (W : Wk K F α m H) {a : Addr} (ha : a ∈ α) : ∃ (n : Nat) (c : Cell) (o : HO), m[n]? = some c ∧ α[n]? = some a ∧ H a = some o ∧ CellR K F α H c o := by
  obtain ⟨n, hn⟩ := List.getElem?_of_mem ha
  have hl := (List.getElem?_eq_some_iff.mp hn).1
  rw [W.len] at hl
  obtain ⟨o, ho, hc⟩ := W.at_ n _ a (List.getElem?_eq_getElem hl) hn
  exact ⟨n, _, o, List.getElem?_eq_getElem hl, hn, ho, hc⟩
theorem Wk.add (W : Wk K F α m H) {p : Addr} {o : HO} {c : Cell} (h : H p = none) (hc : CellR K F α H c o) : Ex F α H F (α ++ [p]) (upd H p o) ∧ Wk K F (α ++ [p]) (m ++ [c]) (upd H p o) := by
  have e : Ex F α H F (α ++ [p]) (upd H p o) := ⟨fun _ h => h, ⟨[p], rfl⟩, fun a u e _ => by rw [upd_ne (ne_of_none e h)]; exact e, fun a ha n => by
    rcases List.mem_append.mp ha with q | q
    · exact absurd q n
    · rw [List.mem_singleton.mp q]; exact h, fun _ _ h _ _ => h⟩
  refine ⟨e, by rw [List.length_append, List.length_append, W.len]; rfl, ?_, fun a ha hf => ?_, fun a hf => ?_, fun n c' a hn ha => ?_⟩
  · rw [List.nodup_append]
    refine ⟨W.nd, List.nodup_cons.mpr ⟨List.not_mem_nil, List.nodup_nil⟩, fun a ha b hb => ?_⟩
    obtain ⟨_, _, o, _, _, ho, _⟩ := W.has ha
    rw [List.mem_singleton.mp hb]
    exact ne_of_none ho h
  · rcases List.mem_append.mp ha with q | q
    · exact W.nf a q hf
    · obtain ⟨o, ho⟩ := W.fr a hf
      rw [List.mem_singleton.mp q, h] at ho; cases ho
  · obtain ⟨o', ho⟩ := W.fr a hf
    exact ⟨o', by rw [upd_ne (ne_of_none ho h)]; exact ho⟩
  · by_cases hl : n < m.length
    · rw [List.getElem?_append_left hl] at hn
      rw [List.getElem?_append_left (by rw [W.len]; exact hl)] at ha
      obtain ⟨o', ho, hc'⟩ := W.at_ n c' a hn ha
      exact ⟨o', by rw [upd_ne (ne_of_none ho h)]; exact ho, hc'.mono W.nf e⟩
    · rw [List.getElem?_append_right (by omega)] at hn
      rw [List.getElem?_append_right (by rw [W.len]; omega), W.len] at ha
      cases hk : n - m.length with
      | zero =>
        rw [hk] at hn ha
        cases hn; cases ha
        exact ⟨o, upd_same, hc.mono W.nf e⟩
      | succ k => rw [hk] at hn; cases hn
theorem Wk.put (W : Wk K F α m H) {n : Nat} {a : Addr} {o : HO} {c : Cell} (h : α[n]? = some a) (hc : CellR K F α H c o) : Ex F α H F α (upd H a o) ∧ Wk K F α (m.set n c) (upd H a o) := by
  have ha : a ∈ α := List.mem_of_getElem? h
  have e : Ex F α H F α (upd H a o) := ⟨fun _ h => h, ⟨[], (List.append_nil _).symm⟩, fun b u e nb => by rw [upd_ne (fun q => nb (by rw [q]; exact ha))]; exact e, fun _ h n => absurd h n, fun _ _ h _ _ => h⟩
  refine ⟨e, by rw [List.length_set, W.len], W.nd, W.nf, fun b hf => ?_, fun k c' b hk hb => ?_⟩
  · obtain ⟨o', ho⟩ := W.fr b hf
    exact ⟨o', by rw [upd_ne (fun q => W.nf a ha (by rw [← q]; exact hf))]; exact ho⟩
  · by_cases hkn : k = n
    · subst hkn
      rw [h] at hb; cases hb
      have hl : k < m.length := by rw [← W.len]; exact (List.getElem?_eq_some_iff.mp h).1
      rw [List.getElem?_set_self hl] at hk; cases hk
      exact ⟨o, upd_same, hc.mono W.nf e⟩
    · rw [List.getElem?_set_ne (fun q => hkn q.symm)] at hk
      obtain ⟨o', ho, hc'⟩ := W.at_ k c' b hk hb
      refine ⟨o', ?_, hc'.mono W.nf e⟩
      rw [upd_ne (fun q => hkn ?_)]
      · exact ho
      · subst q
        obtain ⟨h1, e1⟩ := List.getElem?_eq_some_iff.mp hb
        obtain ⟨h2, e2⟩ := List.getElem?_eq_some_iff.mp h
        exact (List.getElem_inj W.nd).mp (e1.trans e2.symm)
/-- a thing apart is written -/
theorem Wk.apart (W : Wk K F α m H) {D : Addr} {o : HO} (h1 : ¬ F D) (h2 : D ∉ α) : Sub F α H F α (upd H D o) ∧ Wk K F α m (upd H D o) := by
  have e : Sub F α H F α (upd H D o) := ⟨fun _ h => h, fun _ _ h => h, fun a u hf hu => by rw [upd_ne (fun q => h1 (by rw [← q]; exact hf))]; exact hu⟩
  refine ⟨e, W.len, W.nd, W.nf, fun a h => ?_, fun n c a hn ha => ?_⟩
  · obtain ⟨u, hu⟩ := W.fr a h
    exact ⟨u, e.k a u h hu⟩
  · obtain ⟨u, hu, hc⟩ := W.at_ n c a hn ha
    exact ⟨u, by rw [upd_ne (fun q => h2 (by rw [← q]; exact List.mem_of_getElem? ha))]; exact hu, hc.sub e⟩
end
end
/-! N1 -/
section
open PySem PySem.Spec PyProof.Rows
section
variable (K : PySem.W.Frag)
def ExcD (F : Addr → Prop) (α : List Addr) (H : Hp) (fs : List (Str × P)) : Option Addr → Prop
  | none => fs = []
  | some d => fs ≠ [] ∧ F d ∧ ∃ ws, H d = some (.xd ws) ∧ fs.map (·.1) = ws.map (·.1) ∧ Rps K F α H (fs.map (·.2)) (ws.map (·.2))
def Post {β γ : Type} (RR : (Addr → Prop) → List Addr → Hp → β → γ → Prop) (r : Res β) (F : Addr → Prop) (α : List Addr) (H : Hp) (Q : γ → Hp → Prop) (E : XK) : Prop := match r with
  | .ok d m => ∀ v F' α' H', Ex F α H F' α' H' → Wk K F' α' m H' → RR F' α' H' d v → Q v H'
  | .exc c fs m => ∀ F' α' H' dd, Ex F α H F' α' H' → Wk K F' α' m H' → ExcD K F' α' H' fs dd → E (.ref (He.ga K c)) dd H'
  | .stuck => False
def PostS (o : Out) (F : Addr → Prop) (α : List Addr) (H : Hp) (D : Ends) (E : St → XK) : Prop := match o with
  | .nx ρ m => ∀ σ F' α' H', Ex F α H F' α' H' → Wk K F' α' m H' → EnvR K F' α' H' ρ σ → D.nx σ H'
  | .rt d m => ∀ v F' α' H', Ex F α H F' α' H' → Wk K F' α' m H' → Rp K F' α' H' d v → D.rt v H'
  | .bk ρ m => ∀ σ F' α' H', Ex F α H F' α' H' → Wk K F' α' m H' → EnvR K F' α' H' ρ σ → D.bk σ H'
  | .ct ρ m => ∀ σ F' α' H', Ex F α H F' α' H' → Wk K F' α' m H' → EnvR K F' α' H' ρ σ → D.ct σ H'
  | .exc c fs ρ m => ∀ σ F' α' H' dd, Ex F α H F' α' H' → Wk K F' α' m H' → EnvR K F' α' H' ρ σ → ExcD K F' α' H' fs dd → E σ (.ref (He.ga K c)) dd H'
  | .stuck => False
abbrev VR : (Addr → Prop) → List Addr → Hp → P → V → Prop := fun F α H => Rp K F α H
abbrev LR : (Addr → Prop) → List Addr → Hp → List P → List V → Prop := fun F α H => Rps K F α H
abbrev BR : (Addr → Prop) → List Addr → Hp → Bool → Bool → Prop := fun _ _ _ b c => b = c
def tP (E : St → XK) (f : FE) : TE := fun σ H Q => ∃ ρ m F α, Wk K F α m H ∧ EnvR K F α H ρ σ ∧ Post K (VR K) (f ρ m) F α H Q (E σ)
def tA (E : St → XK) (f : FA) : TA := fun σ H Q => ∃ ρ m F α, Wk K F α m H ∧ EnvR K F α H ρ σ ∧ Post K (LR K) (f ρ m) F α H Q (E σ)
def tT (E : St → XK) (f : FT) : TT := fun σ H Q => ∃ ρ m F α, Wk K F α m H ∧ EnvR K F α H ρ σ ∧ Post K BR (f ρ m) F α H Q (E σ)
def tS (E : St → XK) (f : FS) : TS := fun D σ H => ∃ ρ m F α, Wk K F α m H ∧ EnvR K F α H ρ σ ∧ PostS K (f ρ m) F α H D E
end
section
variable {K : PySem.W.Frag} {F F' : Addr → Prop} {α α' : List Addr} {H H' : Hp} {m m' : M} {ρ ρ' : Env} {σ σ' : St} {Q : VK} {E : XK} {Ex' : St → XK} {D : Ends}
theorem Post.mono {β γ : Type} {RR : (Addr → Prop) → List Addr → Hp → β → γ → Prop} {Q : γ → Hp → Prop} {r : Res β} (h : Post K RR r F α H Q E) (e : Ex F α H F' α' H') : Post K RR r F' α' H' Q E := by
  cases r with
  | ok d m => exact fun v F2 α2 H2 e2 => h v F2 α2 H2 (e.trans e2)
  | exc c fs m => exact fun F2 α2 H2 dd e2 => h F2 α2 H2 dd (e.trans e2)
  | stuck => exact h
theorem PostS.mono {o : Out} (h : PostS K o F α H D Ex') (e : Ex F α H F' α' H') : PostS K o F' α' H' D Ex' := by
  cases o with
  | nx => exact fun v F2 α2 H2 e2 => h v F2 α2 H2 (e.trans e2)
  | rt => exact fun v F2 α2 H2 e2 => h v F2 α2 H2 (e.trans e2)
  | bk => exact fun v F2 α2 H2 e2 => h v F2 α2 H2 (e.trans e2)
  | ct => exact fun v F2 α2 H2 e2 => h v F2 α2 H2 (e.trans e2)
  | exc c fs m => exact fun v F2 α2 H2 dd e2 => h v F2 α2 H2 dd (e.trans e2)
  | stuck => exact h
theorem Post.here {β γ : Type} {RR : (Addr → Prop) → List Addr → Hp → β → γ → Prop} {Q : γ → Hp → Prop} {d : β} {v : γ} (h : Post K RR (.ok d m) F α H Q E) (W : Wk K F α m H) (r : RR F α H d v) : Q v H := h v F α H Ex.refl W r
/-- behind a new thing -/
theorem Post.fz {d : P} {p : Addr} {o : HO} (h : Post K (VR K) (.ok d m) F α H Q E) (W : Wk K F α m H) (hp : H p = none) (r : Ex F α H (fun a => F a ∨ a = p) α (upd H p o) → Rp K (fun a => F a ∨ a = p) α (upd H p o) d (.ref p)) : Q (.ref p) (upd H p o) :=
  h _ _ _ _ (W.fz hp).1 (W.fz hp).2 (r (W.fz hp).1)
/-- one after another -/
theorem Post.bind {β δ γ γ' : Type} {RR : (Addr → Prop) → List Addr → Hp → β → γ → Prop} {R2 : (Addr → Prop) → List Addr → Hp → δ → γ' → Prop} {Q : γ' → Hp → Prop} {G : γ → Hp → Prop} {r : Res β} {k : β → M → Res δ}
    (h : Post K R2 (r.bind k) F α H Q E) (hk : ∀ d m1 F1 α1 H1 x, Ex F α H F1 α1 H1 → Wk K F1 α1 m1 H1 → RR F1 α1 H1 d x → Post K R2 (k d m1) F1 α1 H1 Q E → G x H1) : Post K RR r F α H G E := by
  cases r with
  | ok d m => exact fun v F' α' H' e W R => hk d m F' α' H' v e W R (h.mono e)
  | exc c fs m => exact h
  | stuck => exact h
theorem Post.outs {β γ : Type} {RR : (Addr → Prop) → List Addr → Hp → β → γ → Prop} {G : γ → Hp → Prop} {r : Res β} {k : β → M → Out} (W : Wk K F α m H) (R : EnvR K F α H ρ σ)
    (h : PostS K (r.outs ρ k) F α H D Ex') (hk : ∀ d m1 F1 α1 H1 x, Ex F α H F1 α1 H1 → Wk K F1 α1 m1 H1 → EnvR K F1 α1 H1 ρ σ → RR F1 α1 H1 d x → PostS K (k d m1) F1 α1 H1 D Ex' → G x H1) : Post K RR r F α H G (Ex' σ) := by
  cases r with
  | ok d m => exact fun v F' α' H' e W' R' => hk d m F' α' H' v e W' (R.mono W.nf e) R' (h.mono e)
  | exc c fs m => exact fun F' α' H' dd e W' x => h σ F' α' H' dd e W' (R.mono W.nf e) x
  | stuck => exact h
/-- the same, as a reading -/
theorem tP_bind {β γ : Type} {RR : (Addr → Prop) → List Addr → Hp → β → γ → Prop} {Q : γ → Hp → Prop} {f : FE} {k : P → M → Res β} {G : VK} (W : Wk K F α m H) (R : EnvR K F α H ρ σ) (h : Post K RR ((f ρ m).bind k) F α H Q (Ex' σ))
    (hk : ∀ d m1 F1 α1 H1 x, Ex F α H F1 α1 H1 → Wk K F1 α1 m1 H1 → EnvR K F1 α1 H1 ρ σ → Rp K F1 α1 H1 d x → Post K RR (k d m1) F1 α1 H1 Q (Ex' σ) → G x H1) : tP K Ex' f σ H G :=
  ⟨ρ, m, F, α, W, R, Post.bind h fun d m1 F1 α1 H1 x e W1 r p => hk d m1 F1 α1 H1 x e W1 (R.mono W.nf e) r p⟩
theorem tA_bind {β γ : Type} {RR : (Addr → Prop) → List Addr → Hp → β → γ → Prop} {Q : γ → Hp → Prop} {f : FA} {k : List P → M → Res β} {G : List V → Hp → Prop} (W : Wk K F α m H) (R : EnvR K F α H ρ σ) (h : Post K RR ((f ρ m).bind k) F α H Q (Ex' σ))
    (hk : ∀ d m1 F1 α1 H1 x, Ex F α H F1 α1 H1 → Wk K F1 α1 m1 H1 → EnvR K F1 α1 H1 ρ σ → Rps K F1 α1 H1 d x → Post K RR (k d m1) F1 α1 H1 Q (Ex' σ) → G x H1) : tA K Ex' f σ H G :=
  ⟨ρ, m, F, α, W, R, Post.bind h fun d m1 F1 α1 H1 x e W1 r p => hk d m1 F1 α1 H1 x e W1 (R.mono W.nf e) r p⟩
theorem tT_bind {β γ : Type} {RR : (Addr → Prop) → List Addr → Hp → β → γ → Prop} {Q : γ → Hp → Prop} {f : FT} {k : Bool → M → Res β} {G : Bool → Hp → Prop} (W : Wk K F α m H) (R : EnvR K F α H ρ σ) (h : Post K RR ((f ρ m).bind k) F α H Q (Ex' σ))
    (hk : ∀ d m1 F1 α1 H1, Ex F α H F1 α1 H1 → Wk K F1 α1 m1 H1 → EnvR K F1 α1 H1 ρ σ → Post K RR (k d m1) F1 α1 H1 Q (Ex' σ) → G d H1) : tT K Ex' f σ H G :=
  ⟨ρ, m, F, α, W, R, Post.bind h fun d m1 F1 α1 H1 x e W1 r p => by cases r; exact hk d m1 F1 α1 H1 e W1 (R.mono W.nf e) p⟩
theorem tP_outs {f : FE} {k : P → M → Out} {G : VK} (W : Wk K F α m H) (R : EnvR K F α H ρ σ) (h : PostS K ((f ρ m).outs ρ k) F α H D Ex')
    (hk : ∀ d m1 F1 α1 H1 x, Ex F α H F1 α1 H1 → Wk K F1 α1 m1 H1 → EnvR K F1 α1 H1 ρ σ → Rp K F1 α1 H1 d x → PostS K (k d m1) F1 α1 H1 D Ex' → G x H1) : tP K Ex' f σ H G := ⟨ρ, m, F, α, W, R, Post.outs W R h hk⟩
theorem tA_outs {f : FA} {k : List P → M → Out} {G : List V → Hp → Prop} (W : Wk K F α m H) (R : EnvR K F α H ρ σ) (h : PostS K ((f ρ m).outs ρ k) F α H D Ex')
    (hk : ∀ d m1 F1 α1 H1 x, Ex F α H F1 α1 H1 → Wk K F1 α1 m1 H1 → EnvR K F1 α1 H1 ρ σ → Rps K F1 α1 H1 d x → PostS K (k d m1) F1 α1 H1 D Ex' → G x H1) : tA K Ex' f σ H G := ⟨ρ, m, F, α, W, R, Post.outs W R h hk⟩
theorem tT_outs {f : FT} {k : Bool → M → Out} {G : Bool → Hp → Prop} (W : Wk K F α m H) (R : EnvR K F α H ρ σ) (h : PostS K ((f ρ m).outs ρ k) F α H D Ex')
    (hk : ∀ d m1 F1 α1 H1, Ex F α H F1 α1 H1 → Wk K F1 α1 m1 H1 → EnvR K F1 α1 H1 ρ σ → PostS K (k d m1) F1 α1 H1 D Ex' → G d H1) : tT K Ex' f σ H G :=
  ⟨ρ, m, F, α, W, R, Post.outs W R h fun d m1 F1 α1 H1 x e W1 R1 r p => by cases r; exact hk d m1 F1 α1 H1 e W1 R1 p⟩
end
theorem pe_imp {X : Cx} {e : Expr} {t t' : TE} (h : PE X e t) (f : ∀ σ H Q, t' σ H Q → t σ H Q) : PE X e t' := ⟨fun pins s σ H Q I w => h.run pins s σ H Q I (f σ H Q w)⟩
theorem pt_imp {X : Cx} {e : Expr} {t t' : TT} (h : PT X e t) (f : ∀ σ H Q, t' σ H Q → t σ H Q) : PT X e t' := ⟨fun pins s σ H Q I w => h.run pins s σ H Q I (f σ H Q w)⟩
theorem pw_imp {X : Cx} {e : Expr} {t t' : TT} (h : PW X e t) (f : ∀ σ H Q, t' σ H Q → t σ H Q) : PW X e t' := ⟨fun w pins s σ H Q I q => h.run w pins s σ H Q I (f σ H Q q)⟩
theorem pa_imp {X : Cx} {e : List Expr} {t t' : TA} (h : PA X e t) (f : ∀ σ H Q, t' σ H Q → t σ H Q) : PA X e t' := ⟨fun pos pins s σ H Q I w => h.run pos pins s σ H Q I (f σ H Q w)⟩
theorem ps_imp {X : Cx} {e : Stmt} {t t' : TS} (h : PS X e t) (f : ∀ D σ H, t' D σ H → t D σ H) : PS X e t' := ⟨fun pins s σ H D I w => h.run pins s σ H D I (f D σ H w)⟩
theorem pss_imp {X : Cx} {e : List Stmt} {t t' : TS} (h : PSs X e t) (f : ∀ D σ H, t' D σ H → t D σ H) : PSs X e t' := ⟨fun pins s σ H D I w => h.run pins s σ H D I (f D σ H w)⟩
theorem pi_imp {X : Cx} {g e : Expr} {t t' : TI} (h : PI X g e t) (f : ∀ σ H R, t' σ H R → t σ H R) : PI X g e t' := ⟨fun pins s σ H R I w => h.run pins s σ H R I (f σ H R w)⟩
theorem pe_alt {X : Cx} {e : Expr} {t t' : TE} (h : PE X e t) (h' : PE X e t') : PE X e (fun σ H Q => t σ H Q ∨ t' σ H Q) := ⟨fun pins s σ H Q I w => w.elim (h.run pins s σ H Q I) (h'.run pins s σ H Q I)⟩
theorem pi_alt {X : Cx} {g e : Expr} {t t' : TI} (h : PI X g e t) (h' : PI X g e t') : PI X g e (fun σ H Q => t σ H Q ∨ t' σ H Q) := ⟨fun pins s σ H Q I w => w.elim (h.run pins s σ H Q I) (h'.run pins s σ H Q I)⟩
theorem pt_alt {X : Cx} {e : Expr} {t t' : TT} (h : PT X e t) (h' : PT X e t') : PT X e (fun σ H Q => t σ H Q ∨ t' σ H Q) := ⟨fun pins s σ H Q I w => w.elim (h.run pins s σ H Q I) (h'.run pins s σ H Q I)⟩
theorem OpR.alt {X : Cx} {f : Value → Value → Sem Value} {r r' : R2} (h : OpR X f r) (h' : OpR X f r') : OpR X f (fun x y H Q => r x y H Q ∨ r' x y H Q) := fun pins s σ H x y v u Q I rx ry w => w.elim (h pins s σ H x y v u Q I rx ry) (h' pins s σ H x y v u Q I rx ry)
theorem CallR.alt {X : Cx} {f : Value} {r r' : List V → Hp → VK → Prop} (h : CallR X f r) (h' : CallR X f r') : CallR X f (fun x H Q => r x H Q ∨ r' x H Q) := fun pins s σ H x v Q I rx w => w.elim (h pins s σ H x v Q I rx) (h' pins s σ H x v Q I rx)

/-! ### expressions -/
def fVar (i : Nat) : FE := fun ρ m => match ρ[i]? with
  | some (some d) => .ok d m
  | _ => .stuck
def fC (d : P) : FE := fun _ m => .ok d m
def fOp (o : P → P → M → Res P) (fa fb : FE) : FE := fun ρ m => (fa ρ m).bind fun d m1 => (fb ρ m1).bind fun e m2 => o d e m2
def fUn (o : P → M → Res P) (fa : FE) : FE := fun ρ m => (fa ρ m).bind fun d m1 => o d m1
def fNil : FA := fun _ m => .ok [] m
def fCons (fa : FE) (fr : FA) : FA := fun ρ m => (fa ρ m).bind fun d m1 => (fr ρ m1).bind fun ds m2 => .ok (d :: ds) m2
def fCall (o : List P → M → Res P) (fa : FA) : FE := fun ρ m => (fa ρ m).bind fun ds m1 => o ds m1
def OpP (K : PySem.W.Frag) (r : R2) (o : P → P → M → Res P) : Prop := ∀ {F α m H d e x y Q E}, Wk K F α m H → Rp K F α H d x → Rp K F α H e y → Post K (VR K) (o d e m) F α H Q E → r x y H Q
def UnP (K : PySem.W.Frag) (r : V → Hp → VK → Prop) (o : P → M → Res P) : Prop := ∀ {F α m H d x Q E}, Wk K F α m H → Rp K F α H d x → Post K (VR K) (o d m) F α H Q E → r x H Q
def CallP (K : PySem.W.Frag) (r : List V → Hp → VK → Prop) (o : List P → M → Res P) : Prop := ∀ {F α m H d x Q E}, Wk K F α m H → Rps K F α H d x → Post K (VR K) (o d m) F α H Q E → r x H Q
/-- one of two operators, by what the values are -/
def Sel (o o1 o2 : P → P → M → Res P) : Prop := ∀ d e m, o d e m = o1 d e m ∨ o d e m = o2 d e m
theorem OpP.alt {K : PySem.W.Frag} {r1 r2 : R2} {o o1 o2 : P → P → M → Res P} (h1 : OpP K r1 o1) (h2 : OpP K r2 o2) (s : Sel o o1 o2) : OpP K (fun x y H Q => r1 x y H Q ∨ r2 x y H Q) o := by
  intro F α m H d e x y Q E W rx ry p
  rcases s d e m with q | q
  · rw [q] at p; exact .inl (h1 W rx ry p)
  · rw [q] at p; exact .inr (h2 W rx ry p)
theorem CallP.alt {K : PySem.W.Frag} {r1 r2 : List V → Hp → VK → Prop} {o o1 o2 : List P → M → Res P} (h1 : CallP K r1 o1) (h2 : CallP K r2 o2) (s : ∀ d m, o d m = o1 d m ∨ o d m = o2 d m) : CallP K (fun x H Q => r1 x H Q ∨ r2 x H Q) o := by
  intro F α m H d x Q E W rx p
  rcases s d m with q | q
  · rw [q] at p; exact .inl (h1 W rx p)
  · rw [q] at p; exact .inr (h2 W rx p)
section
variable {X : Cx} {E : St → XK} {a b e o : Expr} {es : List Expr} {pos p2 apos cpos p : Pos} {fa fb fo : FE} {fr : FA} {x : Str}
theorem pp_var (i : Nat) (hN : X.N[i]? = some x := by rfl) (hv : Vis X.env.scope x := by first | exact Or.inl rfl | exact Or.inr (Or.inl rfl) | exact Or.inr (Or.inr rfl)) (hd : (x == ("__debug__" : Str)) = false := by decide)
    (hcd : (x == ("__classdict__" : Str)) = false := by decide) : PE X (.Name x pos) (tP X.K E (fVar i)) := by
  refine pe_imp (pe_var (i := i) hN hv hd hcd) fun σ H Q ⟨ρ, m, F, α, W, R, p⟩ => ?_
  unfold fVar at p
  split at p
  · rename_i d hd
    obtain ⟨v, h1, h2⟩ := R.2 i d hd
    exact ⟨v, h1, p.here W h2⟩
  · exact p.elim
theorem pp_c {d : P} {v : V} (h : PE X e (tC v)) (r : ∀ F α H, Rp X.K F α H d v) : PE X e (tP X.K E (fC d)) :=
  pe_imp h fun σ H Q ⟨ρ, m, F, α, W, R, p⟩ => p.here W (r F α H)
theorem tOp_of {K : PySem.W.Frag} {r : R2} {op : P → P → M → Res P} (h : OpP K r op) {σ H Q} (w : tP K E (fOp op fa fb) σ H Q) : tOp r (tP K E fa) (tP K E fb) σ H Q := by
  obtain ⟨ρ, m, F, α, W, R, p⟩ := w
  exact tP_bind W R p fun d m1 F1 α1 H1 x e1 W1 R1 rx p1 => tP_bind W1 R1 p1 fun d2 m2 F2 α2 H2 y e2 W2 R2 ry p2 => h W2 (rx.mono W1.nf e2) ry p2
theorem tUn_of {K : PySem.W.Frag} {r : V → Hp → VK → Prop} {op : P → M → Res P} (h : UnP K r op) {σ H Q} (w : tP K E (fUn op fa) σ H Q) : tUn r (tP K E fa) σ H Q := by
  obtain ⟨ρ, m, F, α, W, R, p⟩ := w
  exact tP_bind W R p fun d m1 F1 α1 H1 x e1 W1 R1 rx p1 => h W1 rx p1
theorem tCB_of {K : PySem.W.Frag} {r : List V → Hp → VK → Prop} {op : List P → M → Res P} (h : CallP K r op) {σ H Q} (w : tP K E (fCall op fr) σ H Q) : tCB r (tA K E fr) σ H Q := by
  obtain ⟨ρ, m, F, α, W, R, p⟩ := w
  exact tA_bind W R p fun d m1 F1 α1 H1 x e1 W1 R1 rx p1 => h W1 rx p1
theorem pp_op {op : Operator} {r : R2} {o : P → P → M → Res P} (hr : OpR X (binaryOp op) r) (ho : OpP X.K r o) (ha : PE X a (tP X.K E fa)) (hb : PE X b (tP X.K E fb)) : PE X (.BinOp a op b pos) (tP X.K E (fOp o fa fb)) :=
  pe_imp (pe_op hr ha hb) fun _ _ _ w => tOp_of ho w
theorem pp_nil : PA X [] (tA X.K E fNil) := pa_imp pa_nil fun σ H Q ⟨ρ, m, F, α, W, R, p⟩ => p.here W .nil
theorem pp_cons (ha : PE X a (tP X.K E fa)) (hr : PA X es (tA X.K E fr)) (he : starEach (a :: es) X.env = (false, eval a X.env) :: starEach es X.env := by rfl) : PA X (a :: es) (tA X.K E (fCons fa fr)) :=
  pa_imp (pa_cons ha hr he) fun σ H Q ⟨ρ, m, F, α, W, R, p⟩ =>
    tP_bind W R p fun d m1 F1 α1 H1 x e1 W1 R1 rx p1 => tA_bind W1 R1 p1 fun ds m2 F2 α2 H2 ys e2 W2 R2 ry p2 => p2.here W2 (.cons (rx.mono W1.nf e2) ry)
end
/-! ### displays -/
/-- a new list: a tree (false) or a cell (true) -/
def mkL (c : Bool) (xs : List P) (m : M) : Res P := if c = true then .ok (.cell m.length) (m ++ [.lst xs]) else .ok (.lst xs) m
theorem mkL_f {xs : List P} {m : M} : mkL false xs m = .ok (.lst xs) m := rfl
theorem mkL_t {xs : List P} {m : M} : mkL true xs m = .ok (.cell m.length) (m ++ [.lst xs]) := rfl
section
variable {K : PySem.W.Frag} {F : Addr → Prop} {α : List Addr} {H : Hp} {m : M} {Q : VK} {E : XK}
theorem Post.mkL {c : Bool} {xs : List P} {vs : List V} {p : Addr} (h : Post K (VR K) (mkL c xs m) F α H Q E) (W : Wk K F α m H) (r : Rps K F α H xs vs) (hp : H p = none) : Q (.ref p) (upd H p (.lst vs)) := by
  unfold L2.Q.mkL at h
  split at h
  · obtain ⟨e, W'⟩ := W.add (c := .lst xs) (o := .lst vs) hp r
    refine h _ _ _ _ e W' (.cell ?_)
    rw [← W.len, List.getElem?_append_right (Nat.le_refl _), Nat.sub_self]
    rfl
  · exact h.fz W hp fun e => .lst (.inr rfl) upd_same (r.mono W.nf e)
theorem Post.mkT {xs : List P} {vs : List V} {p : Addr} (h : Post K (VR K) (.ok (.tup xs) m) F α H Q E) (W : Wk K F α m H) (r : Rps K F α H xs vs) (hp : H p = none) : Q (.ref p) (upd H p (.tup vs)) :=
  h.fz W hp fun e => .tup (.inr rfl) upd_same (r.mono W.nf e)
end
def fits (n : Nat) : Bool := decide (n ≤ 100000)
theorem fits_ok {n : Nat} (h : fits n = true) : n ≤ sizeLine := Evl.sz_of (of_decide_eq_true h)
def oTup (xs : List P) (m : M) : Res P := if fits xs.length = true then .ok (.tup xs) m else .stuck
def oLst (c : Bool) (xs : List P) (m : M) : Res P := if fits xs.length = true then mkL c xs m else .stuck
def fTup (fr : FA) : FE := fCall oTup fr
def fLst (c : Bool) (fr : FA) : FE := fCall (oLst c) fr
section
variable {X : Cx} {E : St → XK} {es : List Expr} {pos : Pos} {fr : FA}
theorem pp_tup {kk} (h : PA X es (tA X.K E fr)) : PE X (.Tuple es kk pos) (tP X.K E (fTup fr)) :=
  pe_imp (pe_tup h) fun σ H Q ⟨ρ, m, F, α, W, R, p⟩ => tA_bind W R p fun d m1 F1 α1 H1 x e1 W1 R1 rx p1 => by
    unfold oTup at p1
    split at p1
    · rename_i hz
      exact ⟨by rw [← rx.length]; exact fits_ok hz, fun p hp => p1.mkT W1 rx hp⟩
    · exact p1.elim
theorem pp_lst (c : Bool) (h : PA X es (tA X.K E fr)) : PE X (.List es pos) (tP X.K E (fLst c fr)) :=
  pe_imp (pe_lst h) fun σ H Q ⟨ρ, m, F, α, W, R, p⟩ => tA_bind W R p fun d m1 F1 α1 H1 x e1 W1 R1 rx p1 => by
    unfold oLst at p1
    split at p1
    · rename_i hz
      exact ⟨by rw [← rx.length]; exact fits_ok hz, fun p hp => p1.mkL W1 rx hp⟩
    · exact p1.elim
end
end
/-! N2 -/
section
open PySem PySem.Spec PyProof.Rows
/-! ### views -/
def lv (m : M) : P → Option (List P)
  | .lst xs => some xs
  | .xls xs => some xs
  | .cell n => match m[n]? with
    | some (.lst xs) => some xs
    | _ => none
  | _ => none
def lw (m : M) : P → Option (List P)
  | .lst xs => some xs
  | .cell n => match m[n]? with
    | some (.lst xs) => some xs
    | _ => none
  | _ => none
section
variable {K : PySem.W.Frag} {F : Addr → Prop} {α : List Addr} {H : Hp} {m : M} {d e : P} {v w : V} {xs : List P} {Q : VK} {E : XK}
theorem lw_ok (W : Wk K F α m H) (r : Rp K F α H d v) (h : lw m d = some xs) : ∃ a vs, v = .ref a ∧ H a = some (.lst vs) ∧ Rps K F α H xs vs := by
  cases r with
  | lst h1 h2 h3 =>
    simp only [lw] at h
    cases h
    exact ⟨_, _, rfl, h2, h3⟩
  | @cell n a ha =>
    simp only [lw] at h
    split at h
    · rename_i ys hn
      cases h
      obtain ⟨o, ho, hc⟩ := W.at_ n _ a hn ha
      cases o <;> first | exact hc.elim | skip
      exact ⟨a, _, rfl, ho, hc⟩
    · cases h
  | _ => simp [lw] at h
theorem lv_ok (W : Wk K F α m H) (r : Rp K F α H d v) (h : lv m d = some xs) : ∃ a vs, v = .ref a ∧ SqL K H a vs ∧ Rps K F α H xs vs := by
  have key : ∀ ys, lw m d = some ys → ys = xs → ∃ a vs, v = .ref a ∧ SqL K H a vs ∧ Rps K F α H xs vs := fun ys hy e => by
    subst e
    obtain ⟨a, vs, e1, e2, e3⟩ := lw_ok W r hy
    exact ⟨a, vs, e1, SqL.of e2, e3⟩
  cases d <;> simp only [lv] at h <;> try cases h
  · exact key _ rfl rfl
  · cases r
    rename_i a vs h1 h2
    refine ⟨a, vs, rfl, ?_, h2⟩
    rcases h1 with h1 | h1
    · exact .inl h1.2
    · exact h1 H
  · exact key xs (by simp only [lw]; exact h) rfl
theorem tv_ok (r : Rp K F α H (.tup xs) v) : ∃ a vs, v = .ref a ∧ F a ∧ H a = some (.tup vs) ∧ Rps K F α H xs vs := by
  cases r
  exact ⟨_, _, rfl, ‹_›, ‹_›, ‹_›⟩
end
/-! ### arithmetic -/
def oAdd (c : Bool) (d e : P) (m : M) : Res P := match d, e with
  | .int a, .int b => .ok (.int (a + b)) m
  | .str a, .str b => if fits (a.length + b.length) = true then .ok (.str (a ++ b)) m else .stuck
  | .tup xs, .tup ys => if fits (xs.length + ys.length) = true then .ok (.tup (xs ++ ys)) m else .stuck
  | d, e => match lw m d, lw m e with
    | some xs, some ys => if fits (xs.length + ys.length) = true then mkL c (xs ++ ys) m else .stuck
    | _, _ => .stuck
def oSub (d e : P) (m : M) : Res P := match d, e with
  | .int a, .int b => .ok (.int (a - b)) m
  | _, _ => .stuck
def mulOk (a b : Int) : Bool := decide ((-(2 ^ 64) < a ∧ a < 2 ^ 64) ∨ (-(2 ^ 64) < b ∧ b < 2 ^ 64))
def oMul (c : Bool) (d e : P) (m : M) : Res P := match d, e with
  | .int a, .int b => if mulOk a b = true then .ok (.int (a * b)) m else .stuck
  | d, .int k => match lw m d with
    | some [x] => if decide (0 ≤ k ∧ k ≤ 100000) = true then mkL c (List.replicate k.toNat x) m else .stuck
    | _ => .stuck
  | _, _ => .stuck
def oFdv (d e : P) (m : M) : Res P := match d, e with
  | .int a, .int b => if decide (0 < b ∧ b < 2 ^ 62) = true then .ok (.int (a / b)) m else .stuck
  | _, _ => .stuck
def oMod (d e : P) (m : M) : Res P := match d, e with
  | .int a, .int b => if decide (0 < b) = true then .ok (.int (a % b)) m else .stuck
  | _, _ => .stuck
def oPow (d e : P) (m : M) : Res P := match d, e with
  | .int a, .int b => if decide (0 ≤ b ∧ b ≤ 1000000 ∧ a.natAbs < 2 ^ 64) = true then .ok (.int (a ^ b.toNat)) m else .stuck
  | _, _ => .stuck
def oNeg (d : P) (m : M) : Res P := match d with
  | .int a => .ok (.int (-a)) m
  | _ => .stuck
theorem iteG {p : Prop} [Decidable p] {β γ : Type} {K : PySem.W.Frag} {RR : (Addr → Prop) → List Addr → Hp → β → γ → Prop} {r : Res β} {F α H Q E} (h : Post K RR (if p then r else .stuck) F α H Q E) : p ∧ Post K RR r F α H Q E := by
  by_cases hp : p
  · rw [if_pos hp] at h; exact ⟨hp, h⟩
  · rw [if_neg hp] at h; exact h.elim
section
variable {K : PySem.W.Frag} {X : Cx}
def rAdd4 (K : PySem.W.Frag) : R2 := fun x y H Q => rAddI x y H Q ∨ rAddS x y H Q ∨ rCatA K x y H Q ∨ rCat x y H Q
theorem o_add : OpR X (binaryOp .Add) (rAdd4 X.K) := fun pins s σ H x y v u Q I rx ry h => by
  rcases h with h | h | h | h
  · exact oAddI pins s σ H x y v u Q I rx ry h
  · exact oAddS pins s σ H x y v u Q I rx ry h
  · exact op_catA pins s σ H x y v u Q I rx ry h
  · exact op_cat pins s σ H x y v u Q I rx ry h
theorem catL_ok {c : Bool} {F α m H d e x y Q E} (W : Wk K F α m H) (rx : Rp K F α H d x) (ry : Rp K F α H e y)
    (p : Post K (VR K) (match lw m d, lw m e with
    | some xs, some ys => if fits (xs.length + ys.length) = true then mkL c (xs ++ ys) m else .stuck
    | _, _ => .stuck) F α H Q E) : rCat x y H Q := by
  split at p
  · rename_i xs ys h1 h2
    obtain ⟨hz, p⟩ := iteG p
    obtain ⟨a, vs, rfl, e1, r1⟩ := lw_ok W rx h1
    obtain ⟨b, ws, rfl, e2, r2⟩ := lw_ok W ry h2
    exact ⟨a, b, vs, ws, rfl, rfl, e1, e2, by rw [← r1.length, ← r2.length]; exact fits_ok hz, fun p' hp => p.mkL W (r1.append r2) hp⟩
  · exact p.elim
theorem p_add (c : Bool) : OpP K (rAdd4 K) (oAdd c) := by
  intro F α m H d e x y Q E W rx ry p
  unfold oAdd at p
  split at p
  · cases rx; cases ry
    exact .inl ⟨_, _, rfl, rfl, p.here W (.int _)⟩
  · cases rx; cases ry
    obtain ⟨hz, p⟩ := iteG p
    exact .inr (.inl ⟨_, _, rfl, rfl, fits_ok hz, p.here W (.str _)⟩)
  · rename_i xs ys
    obtain ⟨hz, p⟩ := iteG p
    obtain ⟨a, vs, rfl, f1, e1, r1⟩ := tv_ok rx
    obtain ⟨b, ws, rfl, f2, e2, r2⟩ := tv_ok ry
    refine .inr (.inr (.inl ⟨a, b, vs, ws, rfl, rfl, Evl.st_of e1, Evl.st_of e2, by rw [← r1.length, ← r2.length]; exact fits_ok hz, fun h => ?_, fun _ h => ?_, fun _ _ p' hp => p.mkT W (r1.append r2) hp⟩))
    · subst h
      cases r1
      exact p.here W (.tup f2 e2 r2)
    · subst h
      cases r2
      exact p.here W (.tup f1 e1 (by rw [List.append_nil]; exact r1))
  · exact .inr (.inr (.inr (catL_ok W rx ry p)))
theorem p_sub : OpP K rSubI oSub := by
  intro F α m H d e x y Q E W rx ry p
  unfold oSub at p
  split at p
  · cases rx; cases ry
    exact ⟨_, _, rfl, rfl, p.here W (.int _)⟩
  · exact p.elim
def rMul2 : R2 := fun x y H Q => rMulI x y H Q ∨ rRep x y H Q
theorem o_mul : OpR X (binaryOp .Mult) rMul2 := fun pins s σ H x y v u Q I rx ry h => by
  rcases h with h | h
  · exact oMulI pins s σ H x y v u Q I rx ry h
  · exact op_rep pins s σ H x y v u Q I rx ry h
theorem p_mul (c : Bool) : OpP K rMul2 (oMul c) := by
  intro F α m H d e x y Q E W rx ry p
  unfold oMul at p
  split at p
  · cases rx; cases ry
    obtain ⟨hz, p⟩ := iteG p
    have hz' := of_decide_eq_true hz
    exact .inl ⟨_, _, rfl, rfl, hz', p.here W (.int _)⟩
  · cases ry
    split at p
    · rename_i z hl
      obtain ⟨hz, p⟩ := iteG p
      obtain ⟨a, vs, rfl, e1, r1⟩ := lw_ok W rx hl
      cases r1 with
      | cons r0 rr =>
        cases rr
        exact .inr (v_rep e1 (of_decide_eq_true hz) fun p' hp => p.mkL W (.replicate r0 _) hp)
    · exact p.elim
  · exact p.elim
theorem p_fdv : OpP K rFdvI oFdv := by
  intro F α m H d e x y Q E W rx ry p
  unfold oFdv at p
  split at p
  · cases rx; cases ry
    obtain ⟨hz, p⟩ := iteG p
    exact v_fdvI (of_decide_eq_true hz) (p.here W (.int _))
  · exact p.elim
theorem p_mod : OpP K rModI oMod := by
  intro F α m H d e x y Q E W rx ry p
  unfold oMod at p
  split at p
  · cases rx; cases ry
    obtain ⟨hz, p⟩ := iteG p
    exact ⟨_, _, rfl, rfl, of_decide_eq_true hz, p.here W (.int _)⟩
  · exact p.elim
theorem p_pow : OpP K rPowI oPow := by
  intro F α m H d e x y Q E W rx ry p
  unfold oPow at p
  split at p
  · cases rx; cases ry
    obtain ⟨hz, p⟩ := iteG p
    exact v_powI (of_decide_eq_true hz) (p.here W (.int _))
  · exact p.elim
theorem p_neg : UnP K rNegI oNeg := by
  intro F α m H d x Q E W rx p
  unfold oNeg at p
  split at p
  · cases rx
    exact ⟨_, rfl, p.here W (.int _)⟩
  · exact p.elim
end
/-! ### equality -/
mutual
def P.data : P → Option PyData
  | .non => some .none
  | .bl b => some (.bool b)
  | .int i => some (.int i)
  | .str x => some (.str x)
  | .tup xs => (P.datas xs).map .tuple
  | .lst xs => (P.datas xs).map .list
  | .xls xs => (P.datas xs).map .list
  | _ => none
def P.datas : List P → Option (List PyData)
  | [] => some []
  | x :: xs => match P.data x, P.datas xs with
    | some d, some ds => some (d :: ds)
    | _, _ => none
end
/-- a cell's list as a list -/
def sh (m : M) (d : P) : P := match d with
  | .cell n => match m[n]? with
    | some (.lst xs) => .lst xs
    | _ => d
  | d => d
section
variable {K : PySem.W.Frag} {F : Addr → Prop} {α : List Addr} {H : Hp} {m : M} {Q : VK} {E : XK}
mutual
theorem data_dp (W : Wk K F α m H) : ∀ {d : P} {v : V} {x : PyData}, Rp K F α H d v → d.data = some x → Dp K H v x
  | _, _, _, .non, h => by simp only [P.data] at h; cases h; exact .non
  | _, _, _, .bl b, h => by simp only [P.data] at h; cases h; exact .bl b
  | _, _, _, .int i, h => by simp only [P.data] at h; cases h; exact .int i
  | _, _, _, .str x, h => by simp only [P.data] at h; cases h; exact .str x
  | _, _, _, .tup h1 h2 h3, h => by
    simp only [P.data] at h
    obtain ⟨ds, hd, rfl⟩ := Option.map_eq_some_iff.mp h
    exact .tup (Evl.st_of h2) (datas_dp W h3 hd)
  | _, _, _, .lst h1 h2 h3, h => by
    simp only [P.data] at h
    obtain ⟨ds, hd, rfl⟩ := Option.map_eq_some_iff.mp h
    exact .lst (SqL.of h2) (datas_dp W h3 hd)
  | _, _, _, .xls h1 h3, h => by
    simp only [P.data] at h
    obtain ⟨ds, hd, rfl⟩ := Option.map_eq_some_iff.mp h
    exact .lst (h1.elim (fun q => .inl q.2) fun q => q H) (datas_dp W h3 hd)
  | _, _, _, .ty n, h => by simp only [P.data] at h; cases h
  | _, _, _, .cls c, h => by simp only [P.data] at h; cases h
  | _, _, _, .dK .., h => by simp only [P.data] at h; cases h
  | _, _, _, .dT .., h => by simp only [P.data] at h; cases h
  | _, _, _, .obj .., h => by simp only [P.data] at h; cases h
  | _, _, _, .cell .., h => by simp only [P.data] at h; cases h
theorem datas_dp (W : Wk K F α m H) : ∀ {d : List P} {v : List V} {x : List PyData}, Rps K F α H d v → P.datas d = some x → DpAll K H v x
  | _, _, _, .nil, h => by simp only [P.datas] at h; cases h; exact .nil
  | _, _, _, .cons r t, h => by
    simp only [P.datas] at h
    split at h
    · rename_i e es h1 h2
      cases h
      exact .cons (data_dp W r h1) (datas_dp W t h2)
    · cases h
end
theorem sh_dp (W : Wk K F α m H) {d : P} {v : V} {x : PyData} (r : Rp K F α H d v) (h : (sh m d).data = some x) : Dp K H v x := by
  by_cases hc : sh m d = d
  · rw [hc] at h; exact data_dp W r h
  · unfold sh at hc h
    split at h
    · rename_i n
      split at h
      · rename_i xs hn
        have hl : lw m (.cell n) = some xs := by simp only [lw, hn]
        obtain ⟨a, vs, rfl, e1, r1⟩ := lw_ok W r hl
        simp only [P.data] at h
        obtain ⟨ds, hd, rfl⟩ := Option.map_eq_some_iff.mp h
        exact .lst (SqL.of e1) (datas_dp W r1 hd)
      · exact data_dp W r h
    · exact data_dp W r h
end
def scalP : P → P → Bool
  | .non, .non => true | .non, .int _ => true | .int _, .non => true | .non, .bl _ => true | .bl _, .non => true | .non, .str _ => true | .str _, .non => true
  | .int _, .int _ => true | .bl _, .bl _ => true | .str _, .str _ => true
  | .int _, .str _ => true | .str _, .int _ => true | .bl _, .str _ => true | .str _, .bl _ => true
  | _, _ => false
def eqP : P → P → Bool
  | .non, .non => true
  | .int a, .int b => decide (a = b)
  | .bl a, .bl b => decide (a = b)
  | .str a, .str b => decide (a = b)
  | _, _ => false
def eqDat (d e : P) (m : M) : Option Bool := match (sh m d).data, (sh m e).data with
  | some a, some b => if (SeqAt.shaped a && SeqAt.shaped b) = true then some (PyData.eqv a b) else none
  | _, _ => none
def oEq (d e : P) (m : M) : Res P := if scalP d e = true then .ok (.bl (eqP d e)) m else match eqDat d e m with
  | some b => .ok (.bl b) m
  | none => .stuck
def oNe (d e : P) (m : M) : Res P := if scalP d e = true then .ok (.bl (!eqP d e)) m else match eqDat d e m with
  | some b => .ok (.bl (!b)) m
  | none => .stuck
def rEqZ (K : PySem.W.Frag) : R2 := fun x y H Q => rEq x y H Q ∨ rEqD K x y H Q
def rNeZ (K : PySem.W.Frag) : R2 := fun x y H Q => rNe x y H Q ∨ rNeD K x y H Q
section
variable {K : PySem.W.Frag} {X : Cx}
theorem o_eq (hu : X.A.units + 64 < cLine) : OpR X (compareOp .Eq) (rEqZ X.K) := OpR.alt op_eq (op_eqD hu)
theorem o_ne (hu : X.A.units + 64 < cLine) : OpR X (compareOp .NotEq) (rNeZ X.K) := OpR.alt op_ne (op_neD hu)
theorem scal_of {F α H d e x y} (h : scalP d e = true) (rx : Rp K F α H d x) (ry : Rp K F α H e y) : scal x y = true ∧ decide (x = y) = eqP d e := by
  cases rx <;> cases ry <;> simp_all [scalP, scal, eqP]
theorem eqDat_ok {F α H m d e x y b} (W : Wk K F α m H) (rx : Rp K F α H d x) (ry : Rp K F α H e y) (h : eqDat d e m = some b) : ∃ a c, Dp K H x a ∧ Dp K H y c ∧ SeqAt.shaped a = true ∧ SeqAt.shaped c = true ∧ b = PyData.eqv a c := by
  unfold eqDat at h
  split at h
  · rename_i a c h1 h2
    split at h
    · rename_i hs
      cases h
      rw [Bool.and_eq_true] at hs
      exact ⟨a, c, sh_dp W rx h1, sh_dp W ry h2, hs.1, hs.2, rfl⟩
    · cases h
  · cases h
theorem p_eq : OpP K (rEqZ K) oEq := by
  intro F α m H d e x y Q E W rx ry p
  unfold oEq at p
  split at p
  · rename_i h
    obtain ⟨h1, h2⟩ := scal_of h rx ry
    exact .inl ⟨h1, by rw [h2]; exact p.here W (.bl _)⟩
  · split at p
    · rename_i b hb
      obtain ⟨a, c, d1, d2, s1, s2, rfl⟩ := eqDat_ok W rx ry hb
      exact .inr ⟨a, c, d1, d2, s1, s2, p.here W (.bl _)⟩
    · exact p.elim
theorem p_ne : OpP K (rNeZ K) oNe := by
  intro F α m H d e x y Q E W rx ry p
  unfold oNe at p
  split at p
  · rename_i h
    obtain ⟨h1, h2⟩ := scal_of h rx ry
    exact .inl ⟨h1, by rw [h2]; exact p.here W (.bl _)⟩
  · split at p
    · rename_i b hb
      obtain ⟨a, c, d1, d2, s1, s2, rfl⟩ := eqDat_ok W rx ry hb
      exact .inr ⟨a, c, d1, d2, s1, s2, p.here W (.bl _)⟩
    · exact p.elim
end
/-! ### is None, in -/
def isNon : P → Bool
  | .non => true
  | _ => false
def oIsN (d e : P) (m : M) : Res P := if isNon e = true then .ok (.bl (isNon d)) m else .stuck
def oNotN (d e : P) (m : M) : Res P := if isNon e = true then .ok (.bl (!isNon d)) m else .stuck
section
variable {K : PySem.W.Frag} {X : Cx}
theorem isNon_of {F α H d x} (rx : Rp K F α H d x) : decide (x = V.non) = isNon d := by
  cases rx <;> simp [isNon]
theorem p_isN : OpP K rIsNo oIsN := by
  intro F α m H d e x y Q E W rx ry p
  unfold oIsN at p
  obtain ⟨h, p⟩ := iteG p
  have hy : y = V.non := by have := isNon_of ry; rw [h] at this; exact of_decide_eq_true this
  exact ⟨hy, by rw [isNon_of rx]; exact p.here W (.bl _)⟩
theorem p_notN : OpP K rNotNo oNotN := by
  intro F α m H d e x y Q E W rx ry p
  unfold oNotN at p
  obtain ⟨h, p⟩ := iteG p
  have hy : y = V.non := by have := isNon_of ry; rw [h] at this; exact of_decide_eq_true this
  exact ⟨hy, by rw [isNon_of rx]; exact p.here W (.bl _)⟩
end
end
/-! N3 -/
section
open PySem PySem.Spec PyProof.Rows
/-! ### tests -/
def tru (m : M) : P → Option Bool
  | .non => some false
  | .bl b => some b
  | .int i => some (i != 0)
  | .str x => if fits x.length = true then some ((x.length : Int) != 0) else none
  | .tup xs => some (!xs.isEmpty)
  | .dK kvs => some (!kvs.isEmpty)
  | .cell n => match m[n]? with
    | some (.lst xs) => some (!xs.isEmpty)
    | some (.dK kvs) => some (!kvs.isEmpty)
    | _ => none
  | d => (lv m d).map fun xs => !xs.isEmpty
theorem Rps.isEmpty {K F α H} {xs : List P} {vs : List V} (r : Rps K F α H xs vs) : vs.isEmpty = xs.isEmpty := by cases r <;> rfl
theorem map_empty {α β γ : Type} {f : α → γ} {g : β → γ} {a : List α} {b : List β} (h : a.map f = b.map g) : b.isEmpty = a.isEmpty := by
  cases a <;> cases b <;> simp_all
theorem tru_of {K : PySem.W.Frag} {F α H m d v k} (W : Wk K F α m H) (r : Rp K F α H d v) (h : tru m d = some k) : TruV K v H k := by
  have lst : ∀ xs, lv m d = some xs → k = !xs.isEmpty → TruV K v H k := fun xs hl hk => by
    obtain ⟨a, vs, rfl, e, r1⟩ := lv_ok W r hl
    exact .inl ⟨vs, e, by rw [r1.isEmpty]; exact hk⟩
  cases r with
  | non => simp only [tru, Option.some.injEq] at h; exact h.symm
  | bl b => simp only [tru, Option.some.injEq] at h; exact h.symm
  | int i => simp only [tru, Option.some.injEq] at h; exact h.symm
  | str x =>
    simp only [tru] at h
    split at h
    · rename_i hf
      cases h
      exact ⟨fits_ok hf, rfl⟩
    · cases h
  | tup h1 h2 h3 =>
    simp only [tru, Option.some.injEq] at h
    exact .inr (.inl ⟨_, Evl.st_of h2, by rw [h3.isEmpty]; exact h.symm⟩)
  | dK h1 h2 h3 h4 =>
    simp only [tru, Option.some.injEq] at h
    exact .inr (.inr ⟨_, h2, by rw [map_empty h3]; exact h.symm⟩)
  | @cell n a ha =>
    simp only [tru] at h
    split at h
    · rename_i xs hn
      cases h
      exact lst xs (by simp only [lv, hn]) rfl
    · rename_i kvs hn
      cases h
      obtain ⟨o, ho, hc⟩ := W.at_ n _ a hn ha
      cases o <;> first | exact hc.elim | skip
      exact .inr (.inr ⟨_, ho, by rw [map_empty hc.1]⟩)
    · cases h
  | lst h1 h2 h3 => simp only [tru, lv, Option.map_some, Option.some.injEq] at h; exact lst _ rfl h.symm
  | xls h1 h2 => simp only [tru, lv, Option.map_some, Option.some.injEq] at h; exact lst _ rfl h.symm
  | _ => simp [tru, lv] at h
def fTru (fe : FE) : FT := fun ρ m => (fe ρ m).bind fun d m1 => match tru m1 d with
  | some b => .ok b m1
  | none => .stuck
def fBl (fe : FE) : FT := fun ρ m => (fe ρ m).bind fun d m1 => match d with
  | .bl b => .ok b m1
  | _ => .stuck
def fAnd (fa fb : FT) : FT := fun ρ m => (fa ρ m).bind fun b m1 => if b = true then fb ρ m1 else .ok false m1
def fOr (fa fb : FT) : FT := fun ρ m => (fa ρ m).bind fun b m1 => if b = true then .ok true m1 else fb ρ m1
def fNot (fa : FT) : FT := fun ρ m => (fa ρ m).bind fun b m1 => .ok (!b) m1
def fAndV (fa fb : FE) : FE := fun ρ m => (fa ρ m).bind fun d m1 => match tru m1 d with
  | some true => fb ρ m1
  | some false => .ok d m1
  | none => .stuck
def fOrV (fa fb : FE) : FE := fun ρ m => (fa ρ m).bind fun d m1 => match tru m1 d with
  | some true => .ok d m1
  | some false => fb ρ m1
  | none => .stuck
def oNotV (d : P) (m : M) : Res P := match d with
  | .bl b => .ok (.bl (!b)) m
  | _ => .stuck
def fNotV (fa : FE) : FE := fUn oNotV fa
def fIf (c : FT) (fa fb : FE) : FE := fun ρ m => (c ρ m).bind fun b m1 => if b = true then fa ρ m1 else fb ρ m1
def fChain (o1 o2 : P → P → M → Res P) (fa fb fc : FE) : FE := fun ρ m => (fa ρ m).bind fun x m1 => (fb ρ m1).bind fun y m2 => (o1 x y m2).bind fun z m3 => match z with
  | .bl true => (fc ρ m3).bind fun w m4 => o2 y w m4
  | .bl false => .ok (.bl false) m3
  | _ => .stuck
section
variable {X : Cx} {E : St → XK} {a b c e o : Expr} {es : List Expr} {rest : List Expr} {pos p2 apos cpos p : Pos} {fa fb fc fo : FE} {ta tb tc : FT} {fr : FA} {x : Str}
theorem pp_tru (h : PE X a (tP X.K E fa)) (he : ∀ whole, isTrue a X.env whole = (do let v ← whole; standAt a.pos; holding [v] (truthy v)) := by intro _; rfl) : PT X a (tT X.K E (fTru fa)) :=
  pt_imp (pt_truth h he) fun σ H Q ⟨ρ, m, F, α, W, R, p⟩ => tP_bind W R p fun d m1 F1 α1 H1 x e1 W1 R1 rx p1 => by
    split at p1
    · rename_i b hb
      exact ⟨b, tru_of W1 rx hb, p1.here W1 rfl⟩
    · exact p1.elim
theorem tTest_of {K : PySem.W.Frag} {f : FE} {t : TE} (h : ∀ σ H Q, tP K E f σ H Q → t σ H Q) {σ H Q} (w : tT K E (fBl f) σ H Q) : tTest t σ H Q := by
  obtain ⟨ρ, m, F, α, W, R, p⟩ := w
  exact h _ _ _ (tP_bind W R p fun d m1 F1 α1 H1 x e1 W1 R1 rx p1 => by
    split at p1
    · cases rx
      exact ⟨_, rfl, p1.here W1 rfl⟩
    · exact p1.elim)
theorem pp_tcmp {op : CmpOp} {r : R2} {o : P → P → M → Res P} (hr : OpR X (compareOp op) r) (ho : OpP X.K r o) (ha : PE X a (tP X.K E fa)) (hb : PE X b (tP X.K E fb)) (hm : behindInMarks op b = false) : PT X (.Compare a [op] [b] pos) (tT X.K E (fBl (fOp o fa fb))) :=
  pt_imp (pt_cmpR hr ha hb hm) fun σ H Q w => tTest_of (fun _ _ _ z => tOp_of ho z) w
theorem pp_cmp {op : CmpOp} {r : R2} {o : P → P → M → Res P} (hr : OpR X (compareOp op) r) (ho : OpP X.K r o) (ha : PE X a (tP X.K E fa)) (hb : PE X b (tP X.K E fb)) (hm : behindInMarks op b = false) : PE X (.Compare a [op] [b] pos) (tP X.K E (fOp o fa fb)) :=
  pe_imp (pe_cmpR hr ha hb hm) fun σ H Q w => tOp_of ho w
theorem tChain_of {K : PySem.W.Frag} {r r' : R2} {o1 o2 : P → P → M → Res P} (h1 : OpP K r o1) (h2 : OpP K r' o2) {σ H Q} (w : tP K E (fChain o1 o2 fa fb fc) σ H Q) : tChain r r' (tP K E fa) (tP K E fb) (tP K E fc) σ H Q := by
  obtain ⟨ρ, m, F, α, W, R, p⟩ := w
  refine tP_bind W R p fun d m1 F1 α1 H1 x e1 W1 R1 rx p1 => tP_bind W1 R1 p1 fun d2 m2 F2 α2 H2 y e2 W2 R2 ry p2 => ?_
  refine h1 W2 (rx.mono W1.nf e2) ry (Post.bind p2 fun z m3 F3 α3 H3 v e3 W3 rz p3 => ?_)
  split at p3
  · cases rz
    refine ⟨true, rfl, ?_⟩
    rw [if_pos rfl]
    exact tP_bind W3 (R2.mono W2.nf e3) p3 fun w m4 F4 α4 H4 u e4 W4 R4 rw' p4 => h2 W4 ((ry.mono W2.nf e3).mono W3.nf e4) rw' p4
  · cases rz
    refine ⟨false, rfl, ?_⟩
    rw [if_neg Bool.false_ne_true]
    exact p3.here W3 (.bl _)
  · exact p3.elim
theorem pp_chain {op op' : CmpOp} {r r' : R2} {o1 o2 : P → P → M → Res P} (hr : OpR X (compareOp op) r) (hr' : OpR X (compareOp op') r') (h1 : OpP X.K r o1) (h2 : OpP X.K r' o2) (ha : PE X a (tP X.K E fa)) (hb : PE X b (tP X.K E fb)) (hc : PE X c (tP X.K E fc))
    (hm : lastMarks [op, op'] [b, c] = false := by with_unfolding_all rfl) : PE X (.Compare a [op, op'] [b, c] pos) (tP X.K E (fChain o1 o2 fa fb fc)) :=
  pe_imp (pe_chain hr hr' ha hb hc hm) fun σ H Q w => tChain_of h1 h2 w
theorem pp_tchain {op op' : CmpOp} {r r' : R2} {o1 o2 : P → P → M → Res P} (hr : OpR X (compareOp op) r) (hr' : OpR X (compareOp op') r') (h1 : OpP X.K r o1) (h2 : OpP X.K r' o2) (ha : PE X a (tP X.K E fa)) (hb : PE X b (tP X.K E fb)) (hc : PE X c (tP X.K E fc))
    (hm : lastMarks [op, op'] [b, c] = false := by with_unfolding_all rfl) : PT X (.Compare a [op, op'] [b, c] pos) (tT X.K E (fBl (fChain o1 o2 fa fb fc))) :=
  pt_imp (pt_chain hr hr' ha hb hc hm) fun σ H Q w => tTest_of (fun _ _ _ z => tChain_of h1 h2 z) w
theorem pp_not (h : PT X a (tT X.K E ta)) : PT X (.UnaryOp .Not a pos) (tT X.K E (fNot ta)) :=
  pt_imp (pt_not h) fun σ H Q ⟨ρ, m, F, α, W, R, p⟩ => tT_bind W R p fun d m1 F1 α1 H1 e1 W1 R1 p1 => p1.here W1 rfl
theorem tAnd_of {K : PySem.W.Frag} {σ H Q} (w : tT K E (fAnd ta tb) σ H Q) : tAnd (tT K E ta) (tT K E tb) σ H Q := by
  obtain ⟨ρ, m, F, α, W, R, p⟩ := w
  refine tT_bind W R p fun d m1 F1 α1 H1 e1 W1 R1 p1 => ?_
  cases d with
  | true => rw [if_pos rfl] at p1 ⊢; exact ⟨ρ, m1, F1, α1, W1, R1, p1⟩
  | false => rw [if_neg Bool.false_ne_true] at p1 ⊢; exact p1.here W1 rfl
theorem tOr_of {K : PySem.W.Frag} {σ H Q} (w : tT K E (fOr ta tb) σ H Q) : tOr (tT K E ta) (tT K E tb) σ H Q := by
  obtain ⟨ρ, m, F, α, W, R, p⟩ := w
  refine tT_bind W R p fun d m1 F1 α1 H1 e1 W1 R1 p1 => ?_
  cases d with
  | false => rw [if_neg Bool.false_ne_true] at p1 ⊢; exact ⟨ρ, m1, F1, α1, W1, R1, p1⟩
  | true => rw [if_pos rfl] at p1 ⊢; exact p1.here W1 rfl
theorem pp_and1 (h : PT X a (tT X.K E ta)) : PW X (.BoolOp .And [a] pos) (tT X.K E ta) := pw_and1 h
theorem pp_or1 (h : PT X a (tT X.K E ta)) : PW X (.BoolOp .Or [a] pos) (tT X.K E ta) := pw_or1 h
theorem pp_and (h : PT X a (tT X.K E ta)) (h2 : PW X (.BoolOp .And (b :: rest) pos) (tT X.K E tb)) : PW X (.BoolOp .And (a :: b :: rest) pos) (tT X.K E (fAnd ta tb)) := pw_imp (pw_and h h2) fun σ H Q w => tAnd_of w
theorem pp_or (h : PT X a (tT X.K E ta)) (h2 : PW X (.BoolOp .Or (b :: rest) pos) (tT X.K E tb)) : PW X (.BoolOp .Or (a :: b :: rest) pos) (tT X.K E (fOr ta tb)) := pw_imp (pw_or h h2) fun σ H Q w => tOr_of w
theorem pp_andV (h : PE X a (tP X.K E fa)) (h2 : PE X (.BoolOp .And (b :: rest) pos) (tP X.K E fb)) : PE X (.BoolOp .And (a :: b :: rest) pos) (tP X.K E (fAndV fa fb)) :=
  pe_imp (pe_andT h h2) fun σ H Q ⟨ρ, m, F, α, W, R, p⟩ => tP_bind W R p fun d m1 F1 α1 H1 x e1 W1 R1 rx p1 => by
    split at p1
    · rename_i hb; exact ⟨true, tru_of W1 rx hb, by rw [if_pos rfl]; exact ⟨ρ, m1, F1, α1, W1, R1, p1⟩⟩
    · rename_i hb; exact ⟨false, tru_of W1 rx hb, by rw [if_neg Bool.false_ne_true]; exact p1.here W1 rx⟩
    · exact p1.elim
theorem pp_orV (h : PE X a (tP X.K E fa)) (h2 : PE X (.BoolOp .Or (b :: rest) pos) (tP X.K E fb)) : PE X (.BoolOp .Or (a :: b :: rest) pos) (tP X.K E (fOrV fa fb)) :=
  pe_imp (pe_orT h h2) fun σ H Q ⟨ρ, m, F, α, W, R, p⟩ => tP_bind W R p fun d m1 F1 α1 H1 x e1 W1 R1 rx p1 => by
    split at p1
    · rename_i hb; exact ⟨true, tru_of W1 rx hb, by rw [if_pos rfl]; exact p1.here W1 rx⟩
    · rename_i hb; exact ⟨false, tru_of W1 rx hb, by rw [if_neg Bool.false_ne_true]; exact ⟨ρ, m1, F1, α1, W1, R1, p1⟩⟩
    · exact p1.elim
theorem pp_one {op} (h : PE X a (tP X.K E fa)) : PE X (.BoolOp op [a] pos) (tP X.K E fa) := pe_one h
theorem pp_notV (h : PE X a (tP X.K E fa)) : PE X (.UnaryOp .Not a pos) (tP X.K E (fNotV fa)) :=
  pe_imp (pe_not h) fun σ H Q ⟨ρ, m, F, α, W, R, p⟩ => tP_bind W R p fun d m1 F1 α1 H1 x e1 W1 R1 rx p1 => by
    unfold oNotV at p1
    split at p1
    · cases rx
      exact ⟨_, rfl, p1.here W1 (.bl _)⟩
    · exact p1.elim
theorem pp_neg (h : PE X a (tP X.K E fa)) : PE X (.UnaryOp .USub a pos) (tP X.K E (fUn oNeg fa)) := pe_imp (pe_un oNegI h) fun σ H Q w => tUn_of p_neg w
theorem pp_ifx (hc : PT X c (tT X.K E tc)) (ha : PE X a (tP X.K E fa)) (hb : PE X b (tP X.K E fb)) : PE X (.IfExp c a b pos) (tP X.K E (fIf tc fa fb)) :=
  pe_imp (pe_ifExp hc ha hb) fun σ H Q ⟨ρ, m, F, α, W, R, p⟩ => tT_bind W R p fun d m1 F1 α1 H1 e1 W1 R1 p1 => by
    cases d with
    | true => rw [if_pos rfl] at p1 ⊢; exact ⟨ρ, m1, F1, α1, W1, R1, p1⟩
    | false => rw [if_neg Bool.false_ne_true] at p1 ⊢; exact ⟨ρ, m1, F1, α1, W1, R1, p1⟩
end
/-! ### subscripts, slices -/
def oIx (d e : P) (m : M) : Res P := match d, e with
  | .tup xs, .int i => match atI xs i with
    | some z => .ok z m
    | none => .stuck
  | .str z, .int i => if fits z.length = true then match atI z.cps.toList i with
    | some c => .ok (.str ⟨#[c]⟩) m
    | none => .stuck
    else .stuck
  | d, .int i => match lv m d with
    | some xs => match atI xs i with
      | some z => .ok z m
      | none => .stuck
    | none => .stuck
  | _, _ => .stuck
theorem Rps.atI {K F α H} {xs : List P} {vs : List V} {i : Int} {z : P} (r : Rps K F α H xs vs) (h : L2.atI xs i = some z) : ∃ w, L2.atI vs i = some w ∧ Rp K F α H z w := by
  unfold L2.atI at h ⊢
  rw [← r.length]
  cases hk : ixN xs.length i with
  | none => rw [hk] at h; cases h
  | some j =>
    rw [hk] at h
    exact r.get (show xs[j]? = some z from h)
theorem p_ix {K : PySem.W.Frag} : OpP K (rIx K) oIx := by
  intro F α m H d e x y Q E W rx ry p
  unfold oIx at p
  split at p
  · split at p
    · rename_i z hz
      cases ry
      obtain ⟨a, vs, rfl, f, e1, r1⟩ := tv_ok rx
      obtain ⟨w, h1, h2⟩ := r1.atI hz
      exact .inr (.inl ⟨a, vs, _, w, rfl, rfl, Evl.st_of e1, h1, p.here W h2⟩)
    · exact p.elim
  · obtain ⟨hf, p⟩ := iteG p
    split at p
    · rename_i c hc
      cases rx; cases ry
      exact .inr (.inr ⟨_, _, c, rfl, rfl, fits_ok hf, hc, p.here W (.str _)⟩)
    · exact p.elim
  · split at p
    · rename_i xs hx
      split at p
      · rename_i z hz
        cases ry
        obtain ⟨a, vs, rfl, e1, r1⟩ := lv_ok W rx hx
        obtain ⟨w, h1, h2⟩ := r1.atI hz
        exact .inl ⟨a, vs, _, w, rfl, rfl, e1, h1, p.here W h2⟩
      · exact p.elim
    · exact p.elim
  · exact p.elim
def cutL {β : Type} (xs : List β) (lo hi : Option Int) : List β := (xs.drop (HT.sIx xs.length 0 lo)).take (HT.sIx xs.length xs.length hi - HT.sIx xs.length 0 lo)
abbrev FO := Env → M → Res (Option Int)
def tO (K : PySem.W.Frag) (E : St → XK) (f : FO) : TO := fun σ H Q => ∃ ρ m F α, Wk K F α m H ∧ EnvR K F α H ρ σ ∧ Post K (fun _ _ _ b c => b = c) (f ρ m) F α H Q (E σ)
def fNoPart : FO := fun _ m => .ok none m
def fPart (fe : FE) : FO := fun ρ m => (fe ρ m).bind fun d m1 => match d with
  | .int i => .ok (some i) m1
  | _ => .stuck
def oSl (c : Bool) (d : P) (lo hi : Option Int) (m : M) : Res P := match d with
  | .tup xs => .ok (.tup (cutL xs lo hi)) m
  | .str z => if fits z.length = true then .ok (.str (cutS z lo hi)) m else .stuck
  | d => match lv m d with
    | some xs => mkL c (cutL xs lo hi) m
    | none => .stuck
def fSl (c : Bool) (fe : FE) (fl fh : FO) : FE := fun ρ m => (fe ρ m).bind fun d m1 => (fl ρ m1).bind fun l m2 => (fh ρ m2).bind fun h m3 => oSl c d l h m3
def oRev (c : Bool) (d : P) (m : M) : Res P := match lv m d with
  | some xs => mkL c xs.reverse m
  | none => .stuck
theorem Rps.cut {K F α H} {xs : List P} {vs : List V} (r : Rps K F α H xs vs) (lo hi : Option Int) : Rps K F α H (cutL xs lo hi) (cutV vs lo hi) := by
  unfold cutL cutV
  rw [← r.length]
  exact (r.drop _).take _
theorem cut_whole {β : Type} {xs : List β} {lo hi : Option Int} (h : HT.sIx xs.length 0 lo = 0 ∧ HT.sIx xs.length xs.length hi = xs.length) : cutL xs lo hi = xs := by
  unfold cutL
  rw [h.1, h.2]
  simp
def rSl3 (K : PySem.W.Frag) : V → Option Int → Option Int → Hp → VK → Prop := fun x lo hi H Q => rSlL K x lo hi H Q ∨ rSlA K x lo hi H Q ∨ rSlS x lo hi H Q
section
variable {X : Cx} {E : St → XK} {a b c e o : Expr} {lo hi : Option Expr} {pos p2 apos cpos p : Pos} {fa fb fc fo : FE} {fl fh : FO}
theorem pp_ix (ha : PE X a (tP X.K E fa)) (hb : PE X b (tP X.K E fb)) (hs : PlainIx b) : PE X (.Subscript a b pos) (tP X.K E (fOp oIx fa fb)) := pe_imp (pe_ix ix_seq ha hb hs) fun σ H Q w => tOp_of p_ix w
theorem pp_nopart : PO X none (tO X.K E fNoPart) := ⟨fun pins s σ H Q I ⟨ρ, m, F, α, W, R, p⟩ => po_none.run pins s σ H Q I (p.here W rfl)⟩
theorem pp_part (h : PE X e (tP X.K E fa)) : PO X (some e) (tO X.K E (fPart fa)) := ⟨fun pins s σ H Q I ⟨ρ, m, F, α, W, R, p⟩ => (po_some h).run pins s σ H Q I (tP_bind W R p fun d m1 F1 α1 H1 x e1 W1 R1 rx p1 => by
  split at p1
  · cases rx
    exact ⟨_, rfl, p1.here W1 rfl⟩
  · exact p1.elim)⟩
theorem sl_3 : SlR X (rSl3 X.K) := sl_list.or (sl_tupA.or sl_str)
theorem p_sl (cc : Bool) {K : PySem.W.Frag} {F α m H d x lo hi Q} {E : XK} (W : Wk K F α m H) (rx : Rp K F α H d x) (p : Post K (VR K) (oSl cc d lo hi m) F α H Q E) : rSl3 K x lo hi H Q := by
  unfold oSl at p
  split at p
  · rename_i xs
    obtain ⟨a, vs, rfl, f, e1, r1⟩ := tv_ok rx
    have hl := r1.length
    refine .inr (.inl ⟨a, vs, rfl, Evl.st_of e1, fun h => ?_, fun _ p' hp => p.mkT W (r1.cut lo hi) hp⟩)
    rw [← hl] at h
    rw [cut_whole h] at p
    exact p.here W (.tup f e1 r1)
  · obtain ⟨hf, p⟩ := iteG p
    cases rx
    exact .inr (.inr ⟨_, rfl, fits_ok hf, p.here W (.str _)⟩)
  · split at p
    · rename_i xs hx
      obtain ⟨a, vs, rfl, e1, r1⟩ := lv_ok W rx hx
      exact .inl ⟨a, vs, rfl, e1, fun p' hp => p.mkL W (r1.cut lo hi) hp⟩
    · exact p.elim
theorem pp_slice (cc : Bool) (he : PE X e (tP X.K E fa)) (hl : PO X lo (tO X.K E fl)) (hh : PO X hi (tO X.K E fh)) : PE X (.Subscript e (.Slice lo hi none p2) pos) (tP X.K E (fSl cc fa fl fh)) :=
  pe_imp (pe_slice sl_3 he hl hh) fun σ H Q ⟨ρ, m, F, α, W, R, p⟩ => tP_bind W R p fun d m1 F1 α1 H1 x e1 W1 R1 rx p1 =>
    ⟨ρ, m1, F1, α1, W1, R1, Post.bind p1 fun l m2 F2 α2 H2 l' e2 W2 rl p2 => by
      cases rl
      exact ⟨ρ, m2, F2, α2, W2, R1.mono W1.nf e2, Post.bind p2 fun h m3 F3 α3 H3 h' e3 W3 rh p3 => by
        cases rh
        exact p_sl cc W3 ((rx.mono W1.nf e2).mono W2.nf e3) p3⟩⟩
theorem pp_rev (cc : Bool) {k : Nat} {p1 p2 p3 : Pos} (he : PE X e (tP X.K E fa)) : PE X (.Subscript e (.Slice none none (some (.UnaryOp .USub (.Constant (.int 1) k p1) p2)) p3) pos) (tP X.K E (fUn (oRev cc) fa)) :=
  pe_imp (pe_revL he) fun σ H Q ⟨ρ, m, F, α, W, R, p⟩ => tP_bind W R p fun d m1 F1 α1 H1 x e1 W1 R1 rx p1 => by
    unfold oRev at p1
    split at p1
    · rename_i xs hx
      obtain ⟨a, vs, rfl, e1, r1⟩ := lv_ok W1 rx hx
      exact ⟨a, vs, rfl, e1, fun p' hp => p1.mkL W1 r1.reverse hp⟩
    · exact p1.elim
end
/-! ### built-in calls -/
def oLen (ds : List P) (m : M) : Res P := match ds with
  | [.tup xs] => .ok (.int (xs.length : Int)) m
  | [.str z] => if fits z.length = true then .ok (.int (z.length : Int)) m else .stuck
  | [.cell n] => match m[n]? with
    | some (.lst xs) => .ok (.int (xs.length : Int)) m
    | some (.dK kvs) => .ok (.int (kvs.length : Int)) m
    | _ => .stuck
  | [.dK kvs] => .ok (.int (kvs.length : Int)) m
  | [d] => match lv m d with
    | some xs => .ok (.int (xs.length : Int)) m
    | none => .stuck
  | _ => .stuck
def rLen3 (K : PySem.W.Frag) : List V → Hp → VK → Prop := fun xs H Q => rLenQ K xs H Q ∨ rLenD xs H Q ∨ rLenT xs H Q
def oList (c : Bool) (ds : List P) (m : M) : Res P := match ds with
  | [.tup xs] => mkL c xs m
  | [d] => match lv m d with
    | some xs => mkL c xs m
    | none => .stuck
  | _ => .stuck
def oTuple (ds : List P) (m : M) : Res P := match ds with
  | [.tup xs] => .ok (.tup xs) m
  | [d] => match lv m d with
    | some xs => .ok (.tup xs) m
    | none => .stuck
  | _ => .stuck
def oInt (ds : List P) (m : M) : Res P := match ds with
  | [.int i] => .ok (.int i) m
  | [.bl b] => .ok (.int (if b then 1 else 0)) m
  | _ => .stuck
def oAbs (ds : List P) (m : M) : Res P := match ds with
  | [.int i] => .ok (.int (if i < 0 then -i else i)) m
  | _ => .stuck
def oOrd (ds : List P) (m : M) : Res P := match ds with
  | [.str x] => if x.length = 1 then .ok (.int (x.cps.getD 0 0 : Nat)) m else .stuck
  | _ => .stuck
def kindP (m : M) : P → Option String
  | .non => some "NoneType"
  | .bl _ => some "bool"
  | .int _ => some "int"
  | .str _ => some "str"
  | .tup _ => some "tuple"
  | .lst _ => some "list"
  | .dK _ => some "dict"
  | .dT _ => some "dict"
  | .cell n => match m[n]? with
    | some (.lst _) => some "list"
    | some (.dK _) => some "dict"
    | some (.dT _) => some "dict"
    | _ => none
  | _ => none
def oIsi (ds : List P) (m : M) : Res P := match ds with
  | [d, .ty n] => match kindP m d with
    | some k => match kitB k n with
      | some b => .ok (.bl b) m
      | none => .stuck
    | none => .stuck
  | _ => .stuck
theorem Rps.two {K F α H} {a b : P} {xs : List V} (r : Rps K F α H [a, b] xs) : ∃ v w, xs = [v, w] ∧ Rp K F α H a v ∧ Rp K F α H b w := by
  cases r with
  | cons r1 rr => cases rr with
    | cons r2 rr => cases rr; exact ⟨_, _, rfl, r1, r2⟩
theorem Rps.only {K F α H} {a : P} {xs : List V} (r : Rps K F α H [a] xs) : ∃ v, xs = [v] ∧ Rp K F α H a v := by
  cases r with
  | cons r1 rr => cases rr; exact ⟨_, rfl, r1⟩
theorem map_len {α β γ : Type} {f : α → γ} {g : β → γ} {a : List α} {b : List β} (h : a.map f = b.map g) : b.length = a.length := by
  have := congrArg List.length h
  simpa using this.symm
section
variable {K : PySem.W.Frag}
theorem kind_of {F α m H d v k} (W : Wk K F α m H) (r : Rp K F α H d v) (h : kindP m d = some k) : TyX K H v (.type k) := by
  cases r with
  | non => simp only [kindP, Option.some.injEq] at h; subst h; exact .base .non
  | bl b => simp only [kindP, Option.some.injEq] at h; subst h; exact .base (.bl b)
  | int b => simp only [kindP, Option.some.injEq] at h; subst h; exact .base (.int b)
  | str b => simp only [kindP, Option.some.injEq] at h; subst h; exact .base (.str b)
  | tup h1 h2 h3 => simp only [kindP, Option.some.injEq] at h; subst h; exact .base (.tup h2)
  | lst h1 h2 h3 => simp only [kindP, Option.some.injEq] at h; subst h; exact .base (.lst h2)
  | dK h1 h2 h3 => simp only [kindP, Option.some.injEq] at h; subst h; exact .base (.dK h2)
  | dT h1 h2 h3 => simp only [kindP, Option.some.injEq] at h; subst h; exact .base (.dT h2)
  | @cell n a ha =>
    simp only [kindP] at h
    split at h <;> first
      | (rename_i hn
         cases h
         obtain ⟨o, ho, hc⟩ := W.at_ n _ a hn ha
         cases o <;> first | exact hc.elim | exact .base (.lst ho) | exact .base (.dK ho) | exact .base (.dT ho))
      | cases h
  | _ => simp [kindP] at h
theorem p_isi : CallP K (rIsi K) oIsi := by
  intro F α m H d x Q E W rx p
  unfold oIsi at p
  split at p
  · rename_i d n
    obtain ⟨v, w, rfl, r1, r2⟩ := rx.two
    cases r2
    split at p
    · rename_i k hk
      split at p
      · rename_i b hb
        exact ⟨v, .ty n, .type k, .type n, b, rfl, .ty n, kind_of W r1 hk, kit_ty hb, p.here W (.bl _)⟩
      · exact p.elim
    · exact p.elim
  · exact p.elim
theorem p_len : CallP K (rLen3 K) oLen := by
  intro F α m H d x Q E W rx p
  have lst : ∀ d xs, Rps K F α H [d] x → lv m d = some xs → Post K (VR K) (.ok (.int (xs.length : Int)) m) F α H Q E → rLen3 K x H Q := fun d xs rx hx p => by
    obtain ⟨v, rfl, r1⟩ := rx.only
    obtain ⟨a, vs, rfl, e1, r2⟩ := lv_ok W r1 hx
    exact .inl ⟨a, vs, rfl, .inl e1, by rw [← r2.length]; exact p.here W (.int _)⟩
  unfold oLen at p
  split at p
  · obtain ⟨v, rfl, r1⟩ := rx.only
    obtain ⟨a, vs, rfl, f, e1, r2⟩ := tv_ok r1
    exact .inl ⟨a, vs, rfl, .inr (Evl.st_of e1), by rw [← r2.length]; exact p.here W (.int _)⟩
  · obtain ⟨hf, p⟩ := iteG p
    obtain ⟨v, rfl, r1⟩ := rx.only
    cases r1
    exact .inr (.inr ⟨_, rfl, fits_ok hf, p.here W (.int _)⟩)
  · rename_i n
    split at p
    · rename_i xs hn
      exact lst _ xs rx (by simp only [lv, hn]) p
    · rename_i kvs hn
      obtain ⟨v, rfl, r1⟩ := rx.only
      cases r1
      rename_i a ha
      obtain ⟨o, ho, hc⟩ := W.at_ n _ a hn ha
      cases o <;> first | exact hc.elim | skip
      exact .inr (.inl ⟨a, _, rfl, ho, by rw [map_len hc.1]; exact p.here W (.int _)⟩)
    · exact p.elim
  · obtain ⟨v, rfl, r1⟩ := rx.only
    cases r1
    rename_i h1 h2 h3 h4
    exact .inr (.inl ⟨_, _, rfl, h2, by rw [map_len h3]; exact p.here W (.int _)⟩)
  · split at p
    · rename_i xs hx
      exact lst _ xs rx hx p
    · exact p.elim
  · exact p.elim
theorem p_list (c : Bool) : CallP K (rListQ K) (oList c) := by
  intro F α m H d x Q E W rx p
  unfold oList at p
  split at p
  · obtain ⟨v, rfl, r1⟩ := rx.only
    obtain ⟨a, vs, rfl, f, e1, r2⟩ := tv_ok r1
    exact ⟨a, vs, rfl, .inr (Evl.st_of e1), fun p' hp => p.mkL W r2 hp⟩
  · split at p
    · rename_i xs hx
      obtain ⟨v, rfl, r1⟩ := rx.only
      obtain ⟨a, vs, rfl, e1, r2⟩ := lv_ok W r1 hx
      exact ⟨a, vs, rfl, .inl e1, fun p' hp => p.mkL W r2 hp⟩
    · exact p.elim
  · exact p.elim
theorem p_tuple : CallP K (rTupQ K) oTuple := by
  intro F α m H d x Q E W rx p
  unfold oTuple at p
  split at p
  · obtain ⟨v, rfl, r1⟩ := rx.only
    obtain ⟨a, vs, rfl, f, e1, r2⟩ := tv_ok r1
    exact ⟨a, vs, rfl, .inr ⟨Evl.st_of e1, p.here W (.tup f e1 r2)⟩⟩
  · split at p
    · rename_i xs hx
      obtain ⟨v, rfl, r1⟩ := rx.only
      obtain ⟨a, vs, rfl, e1, r2⟩ := lv_ok W r1 hx
      exact ⟨a, vs, rfl, .inl ⟨e1, fun p' hp => p.mkT W r2 hp⟩⟩
    · exact p.elim
  · exact p.elim
theorem p_int : CallP K rInt1 oInt := by
  intro F α m H d x Q E W rx p
  unfold oInt at p
  split at p
  · obtain ⟨v, rfl, r1⟩ := rx.only
    cases r1
    exact .inl ⟨_, rfl, p.here W (.int _)⟩
  · obtain ⟨v, rfl, r1⟩ := rx.only
    cases r1
    exact .inr ⟨_, rfl, p.here W (.int _)⟩
  · exact p.elim
theorem p_abs : CallP K rAbs1 oAbs := by
  intro F α m H d x Q E W rx p
  unfold oAbs at p
  split at p
  · obtain ⟨v, rfl, r1⟩ := rx.only
    cases r1
    exact ⟨_, rfl, p.here W (.int _)⟩
  · exact p.elim
theorem p_ord : CallP K rOrd1 oOrd := by
  intro F α m H d x Q E W rx p
  unfold oOrd at p
  split at p
  · obtain ⟨hf, p⟩ := iteG p
    obtain ⟨v, rfl, r1⟩ := rx.only
    cases r1
    exact ⟨_, rfl, hf, p.here W (.int _)⟩
  · exact p.elim
end
section
variable {X : Cx} {E : St → XK} {e : Expr} {es : List Expr} {pos p : Pos} {fr : FA} {x : Str}
theorem pp_callB {id : String} {r : List V → Hp → VK → Prop} {o : List P → M → Res P} (hc : CallR X (.builtin id) r) (ho : CallP X.K r o) (hg : Gl X x) (hm : X.mg x = none) (hv : bootBuiltins x = some (.builtin id)) (ha : PA X (e :: es) (tA X.K E fr)) (hn : x ≠ "__name__" := by decide) (hdb : (x == ("__debug__" : Str)) = false := by decide)
    (he : starEach (e :: es) X.env = (false, eval e X.env) :: starEach es X.env := by rfl) (hpl : (backTo pos (starEach es X.env)).any (·.1) = false := by rfl) : PE X (.Call (.Name x p) (e :: es) [] pos) (tP X.K E (fCall o fr)) :=
  pe_imp (pe_callB hc hg hm hv ha hn hdb he hpl) fun σ H Q w => tCB_of ho w
theorem pp_callT {T : String} {r : List V → Hp → VK → Prop} {o : List P → M → Res P} (hc : CallR X (.type T) r) (ho : CallP X.K r o) (hg : Gl X x) (hm : X.mg x = none) (hv : bootBuiltins x = some (.type T)) (ha : PA X (e :: es) (tA X.K E fr)) (hn : x ≠ "__name__" := by decide) (hdb : (x == ("__debug__" : Str)) = false := by decide)
    (he : starEach (e :: es) X.env = (false, eval e X.env) :: starEach es X.env := by rfl) (hpl : (backTo pos (starEach es X.env)).any (·.1) = false := by rfl) : PE X (.Call (.Name x p) (e :: es) [] pos) (tP X.K E (fCall o fr)) :=
  pe_imp (pe_callTy hc hg hm hv ha hn hdb he hpl) fun σ H Q w => tCB_of ho w
theorem c_len3 : CallR X (.builtin "len") (rLen3 X.K) := CallR.alt cLenQ (CallR.alt cLenD cLenT)
end
end
/-! N4 -/
section
open PySem PySem.Spec PyProof.Rows
/-! ### targets -/
mutual
inductive Tg where
  | name (i : Nat)
  | tup (ts : TgL)
inductive TgL where
  | nil
  | cons (t : Tg) (r : TgL)
end
def TgL.len : TgL → Nat
  | .nil => 0
  | .cons _ r => r.len + 1
mutual
def Tg.put : Tg → P → Env → Option Env
  | .name i, d, ρ => some (ρ.set i (some d))
  | .tup ts, d, ρ => match d with
    | .tup xs => ts.puts xs ρ
    | _ => none
def TgL.puts : TgL → List P → Env → Option Env
  | .nil, [], ρ => some ρ
  | .nil, _ :: _, _ => none
  | .cons _ _, [], _ => none
  | .cons t r, x :: xs, ρ => match t.put x ρ with
    | some ρ1 => r.puts xs ρ1
    | none => none
end
mutual
def Tg.rd (K : PySem.W.Frag) : Tg → TG
  | .name i => gName i
  | .tup ts => gTup K ts.len (ts.rds K)
def TgL.rds (K : PySem.W.Frag) : TgL → TGs
  | .nil => gNil
  | .cons t r => gCons (t.rd K) (r.rds K)
end
mutual
def Tg.slots : Tg → List Nat
  | .name i => [i]
  | .tup ts => ts.slotss
def TgL.slotss : TgL → List Nat
  | .nil => []
  | .cons t r => t.slots ++ r.slotss
end
theorem EnvR.set {K F α H} {ρ : Env} {σ : St} {d : P} {v : V} (h : EnvR K F α H ρ σ) (r : Rp K F α H d v) (i : Nat) : EnvR K F α H (ρ.set i (some d)) (σ.set i (some v)) := by
  refine ⟨by rw [List.length_set, List.length_set]; exact h.1, fun j e he => ?_⟩
  by_cases hj : i = j
  · subst hj
    by_cases hl : i < ρ.length
    · rw [List.getElem?_set_self hl] at he
      cases he
      exact ⟨v, by rw [List.getElem?_set_self (by rw [← h.1]; exact hl)], r⟩
    · rw [List.getElem?_eq_none (by rw [List.length_set]; omega)] at he; cases he
  · rw [List.getElem?_set_ne hj] at he ⊢
    exact h.2 j e he
mutual
theorem Tg.sound {K F α H} : ∀ (t : Tg) {d : P} {v : V} {ρ ρ' : Env} {σ : St} {G : St → Hp → Prop}, EnvR K F α H ρ σ → Rp K F α H d v → t.put d ρ = some ρ' →
    (∀ σ', EnvR K F α H ρ' σ' → (∀ j, j ∉ t.slots → σ'[j]? = σ[j]?) → σ'.length = σ.length → G σ' H) → t.rd K v σ H G
  | .name i, d, v, ρ, ρ', σ, G, R, r, h, g => by
    simp only [Tg.put, Option.some.injEq] at h
    subst h
    refine g _ (R.set r i) (fun j hj => ?_) (List.length_set ..)
    rw [Tg.slots, List.mem_singleton] at hj
    exact List.getElem?_set_ne (fun e => hj e.symm)
  | .tup ts, d, v, ρ, ρ', σ, G, R, r, h, g => by
    cases d <;> simp only [Tg.put] at h <;> try cases h
    obtain ⟨a, vs, rfl, f, e1, r1⟩ := tv_ok r
    have hl : vs.length = ts.len := by rw [← r1.length]; exact TgL.put_len ts h
    exact ⟨a, vs, rfl, Evl.st_of e1, hl, TgL.sound ts R r1 h g⟩
theorem TgL.put_len : ∀ (t : TgL) {d : List P} {ρ ρ' : Env}, t.puts d ρ = some ρ' → d.length = t.len
  | .nil, [], _, _, _ => rfl
  | .nil, _ :: _, _, _, h => by simp [TgL.puts] at h
  | .cons t r, [], _, _, h => by simp [TgL.puts] at h
  | .cons t r, x :: xs, ρ, ρ', h => by
    simp only [TgL.puts] at h
    split at h
    · show xs.length + 1 = r.len + 1
      rw [TgL.put_len r h]
    · cases h
theorem TgL.sound {K F α H} : ∀ (t : TgL) {d : List P} {v : List V} {ρ ρ' : Env} {σ : St} {G : St → Hp → Prop}, EnvR K F α H ρ σ → Rps K F α H d v → t.puts d ρ = some ρ' →
    (∀ σ', EnvR K F α H ρ' σ' → (∀ j, j ∉ t.slotss → σ'[j]? = σ[j]?) → σ'.length = σ.length → G σ' H) → t.rds K v σ H G
  | .nil, [], v, ρ, ρ', σ, G, R, r, h, g => by
    cases r
    simp only [TgL.puts, Option.some.injEq] at h
    subst h
    exact ⟨rfl, g σ R (fun _ _ => rfl) rfl⟩
  | .nil, _ :: _, v, ρ, ρ', σ, G, R, r, h, g => by simp [TgL.puts] at h
  | .cons t tr, [], v, ρ, ρ', σ, G, R, r, h, g => by simp [TgL.puts] at h
  | .cons t tr, x :: xs, v, ρ, ρ', σ, G, R, r, h, g => by
    simp only [TgL.puts] at h
    split at h
    · rename_i ρ1 h1
      cases r with
      | cons r1 rr =>
        refine ⟨_, _, rfl, Tg.sound t R r1 h1 fun σ1 R1 a1 l1 => TgL.sound tr R1 rr h fun σ2 R2 a2 l2 => g σ2 R2 (fun j hj => ?_) (l2.trans l1)⟩
        rw [TgL.slotss, List.mem_append, not_or] at hj
        rw [a2 j hj.2, a1 j hj.1]
    · cases h
end
/-! ### statements -/
def fAsg (g : Tg) (fe : FE) : FS := fun ρ m => (fe ρ m).outs ρ fun d m1 => match g.put d ρ with
  | some ρ' => .nx ρ' m1
  | none => .stuck
def fDrop (fe : FE) : FS := fun ρ m => (fe ρ m).outs ρ fun _ m1 => .nx ρ m1
def fRet (fe : FE) : FS := fun ρ m => (fe ρ m).outs ρ fun d m1 => .rt d m1
def fRetN : FS := fun _ m => .rt .non m
def fNext : FS := fun ρ m => .nx ρ m
def fBrk : FS := fun ρ m => .bk ρ m
def fCont : FS := fun ρ m => .ct ρ m
def fSeq (f g : FS) : FS := fun ρ m => match f ρ m with
  | .nx ρ1 m1 => g ρ1 m1
  | o => o
def fIfS (c : FT) (f g : FS) : FS := fun ρ m => (c ρ m).outs ρ fun b m1 => if b = true then f ρ m1 else g ρ m1
def oSet (d i v : P) (m : M) : Option M := match d, i with
  | .cell n, .int k => match m[n]? with
    | some (.lst xs) => match ixN xs.length k with
      | some j => some (m.set n (.lst (xs.set j v)))
      | none => none
    | _ => none
  | _, _ => none
def fSetS (fo fi fv : FE) : FS := fun ρ m => (fv ρ m).outs ρ fun v m1 => (fo ρ m1).outs ρ fun d m2 => (fi ρ m2).outs ρ fun i m3 => match oSet d i v m3 with
  | some m4 => .nx ρ m4
  | none => .stuck
def fAug (i : Nat) (o : P → P → M → Res P) (fe : FE) : FS := fun ρ m => match ρ[i]? with
  | some (some d) => (fe ρ m).outs ρ fun e m1 => (o d e m1).outs ρ fun z m2 => .nx (ρ.set i (some z)) m2
  | _ => .stuck
def oIxL (d e : P) (m : M) : Res P := match e with
  | .int i => match lv m d with
    | some xs => match atI xs i with
      | some z => .ok z m
      | none => .stuck
    | none => .stuck
  | _ => .stuck
def fAugS (fo fi : FE) (o : P → P → M → Res P) (fe : FE) : FS := fun ρ m => (fo ρ m).outs ρ fun d m1 => (fi ρ m1).outs ρ fun i m2 => (oIxL d i m2).outs ρ fun x m3 => (fe ρ m3).outs ρ fun e m4 => (o x e m4).outs ρ fun z m5 =>
  match oSet d i z m5 with
  | some m6 => .nx ρ m6
  | none => .stuck
def oPlus (d e : P) (m : M) : Res P := match d, e with
  | .int a, .int b => .ok (.int (a + b)) m
  | _, _ => .stuck
section
variable {X : Cx} {E : St → XK} {a b c e o i : Expr} {es : List Expr} {rest : List Stmt} {s : Stmt} {sa sb : List Stmt} {pos p2 apos cpos tpos p : Pos} {fa fb fc fo fi fv fe : FE} {tc : FT} {f g : FS} {x : Str} {tg : Expr} {t : Tg}
theorem pp_ret (h : PE X e (tP X.K E fe)) : PS X (.Return (some e) pos) (tS X.K E (fRet fe)) :=
  ps_imp (ps_ret h) fun D σ H ⟨ρ, m, F, α, W, R, p⟩ => tP_outs W R p fun d m1 F1 α1 H1 x e1 W1 R1 rx p1 => p1 _ _ _ _ Ex.refl W1 rx
theorem pp_retN : PS X (.Return none pos) (tS X.K E fRetN) := ps_imp ps_retN fun D σ H ⟨ρ, m, F, α, W, R, p⟩ => p _ _ _ _ Ex.refl W .non
theorem pp_pass : PS X (.Pass pos) (tS X.K E fNext) := ps_imp ps_pass fun D σ H ⟨ρ, m, F, α, W, R, p⟩ => p _ _ _ _ Ex.refl W R
theorem pp_brk : PS X (.Break pos) (tS X.K E fBrk) := ps_imp ps_break fun D σ H ⟨ρ, m, F, α, W, R, p⟩ => p _ _ _ _ Ex.refl W R
theorem pp_cont : PS X (.Continue pos) (tS X.K E fCont) := ps_imp ps_continue fun D σ H ⟨ρ, m, F, α, W, R, p⟩ => p _ _ _ _ Ex.refl W R
theorem pp_expr (h : PE X e (tP X.K E fe)) (hs : swapsWith e none pos.line X.env = pure false := by rfl) : PS X (.Expr e pos) (tS X.K E (fDrop fe)) :=
  ps_imp (ps_expr h hs) fun D σ H ⟨ρ, m, F, α, W, R, p⟩ => tP_outs W R p fun d m1 F1 α1 H1 x e1 W1 R1 rx p1 => p1 _ _ _ _ Ex.refl W1 R1
theorem pps_nil : PSs X [] (tS X.K E fNext) := pss_imp pss_nil fun D σ H ⟨ρ, m, F, α, W, R, p⟩ => p _ _ _ _ Ex.refl W R
theorem pps_one (h : PS X s (tS X.K E f)) : PSs X [s] (tS X.K E f) := pss_one h
theorem tSeq_of {K : PySem.W.Frag} {D σ H} (w : tS K E (fSeq f g) D σ H) : tSeq (tS K E f) (tS K E g) D σ H := by
  obtain ⟨ρ, m, F, α, W, R, p⟩ := w
  refine ⟨ρ, m, F, α, W, R, ?_⟩
  unfold fSeq at p
  cases h : f ρ m with
  | nx ρ1 m1 => rw [h] at p; exact fun σ1 F1 α1 H1 e1 W1 R1 => ⟨ρ1, m1, F1, α1, W1, R1, p.mono e1⟩
  | rt d m1 => rw [h] at p; exact p
  | bk ρ1 m1 => rw [h] at p; exact p
  | ct ρ1 m1 => rw [h] at p; exact p
  | exc c fs ρ1 m1 => rw [h] at p; exact p
  | stuck => rw [h] at p; exact p
theorem pps_cons (h : PS X s (tS X.K E f)) (h2 : PSs X rest (tS X.K E g)) : PSs X (s :: rest) (tS X.K E (fSeq f g)) := pss_imp (pss_cons h h2) fun D σ H w => tSeq_of w
theorem pp_if (hc : PT X c (tT X.K E tc)) (ha : PSs X sa (tS X.K E f)) (hb : PSs X sb (tS X.K E g)) : PS X (.If c sa sb pos) (tS X.K E (fIfS tc f g)) :=
  ps_imp (ps_if hc ha hb) fun D σ H ⟨ρ, m, F, α, W, R, p⟩ => tT_outs W R p fun d m1 F1 α1 H1 e1 W1 R1 p1 => by
    cases d with
    | true => rw [if_pos rfl] at p1 ⊢; exact ⟨ρ, m1, F1, α1, W1, R1, p1⟩
    | false => rw [if_neg Bool.false_ne_true] at p1 ⊢; exact ⟨ρ, m1, F1, α1, W1, R1, p1⟩
theorem asg_of {K : PySem.W.Frag} {D σ H} (w : tS K E (fAsg t fe) D σ H) : tAsg (tP K E fe) (t.rd K) D σ H := by
  obtain ⟨ρ, m, F, α, W, R, p⟩ := w
  refine tP_outs W R p fun d m1 F1 α1 H1 x e1 W1 R1 rx p1 => ?_
  split at p1
  · rename_i ρ' hp
    exact t.sound R1 rx hp fun σ' R' _ _ => p1 _ _ _ _ Ex.refl W1 R'
  · exact p1.elim
theorem pp_set {n : Nat} {pos' : Pos} (hN : X.N.Nodup) (hi : X.N[n]? = some x) (hx : Loc X.env.scope x) (he : PE X e (tP X.K E fe)) (hs : swapsWith e (some (.Name x pos')) pos.line X.env = pure false := by rfl) (hf : X.fn x = true ∨ X.env.scope.names.lookup x = some .local := by first | exact .inl rfl | exact .inr rfl | assumption) :
    PS X (.Assign [.Name x pos'] e pos) (tS X.K E (fAsg (.name n) fe)) := ps_imp (ps_set hN hi hx he hs hf) fun D σ H w => asg_of (t := .name n) w
theorem pp_asg (he : PE X e (tP X.K E fe)) (hg : PG X tg (t.rd X.K)) (hs : swapsWithSole [tg] e pos.line X.env = pure false := by rfl) (hw : swappedStores [tg] e X.env = pure none := by rfl)
    (h1 : (assignEach [tg] X.env).map (·.2) = [assign tg X.env] := by rfl) : PS X (.Assign [tg] e pos) (tS X.K E (fAsg t fe)) := ps_imp (ps_asg he hg hs hw h1) fun D σ H w => asg_of w
theorem setL_of {K : PySem.W.Frag} {F α m m' H d i v x y z G} (W : Wk K F α m H) (rx : Rp K F α H d x) (ry : Rp K F α H i y) (rz : Rp K F α H v z) (h : oSet d i v m = some m') (g : ∀ H', Ex F α H F α H' → Wk K F α m' H' → G H') : rSetL x y z H G := by
  unfold oSet at h
  split at h
  · rename_i n k
    split at h
    · rename_i xs hn
      split at h
      · rename_i j hj
        cases h
        cases rx
        cases ry
        rename_i a ha
        obtain ⟨o, ho, hc⟩ := W.at_ n _ a hn ha
        cases o <;> first | exact hc.elim | skip
        rename_i vs
        have hr : Rps K F α H xs vs := hc
        obtain ⟨e, W'⟩ := W.put ha (c := .lst (xs.set j v)) (o := .lst (vs.set j z)) (hr.set rz j)
        exact ⟨a, vs, k, j, rfl, rfl, ho, by rw [← hr.length]; exact hj, g _ e W'⟩
      · cases h
    · cases h
  · cases h
theorem tSub_of {K : PySem.W.Frag} {D σ H} (w : tS K E (fSetS fo fi fv) D σ H) : tAsg (tP K E fv) (gSub (tP K E fo) (tP K E fi) rSetL) D σ H := by
  obtain ⟨ρ, m, F, α, W, R, p⟩ := w
  refine tP_outs W R p fun d m1 F1 α1 H1 x e1 W1 R1 rx p1 => tP_outs W1 R1 p1 fun d2 m2 F2 α2 H2 y e2 W2 R2 ry p2 => tP_outs W2 R2 p2 fun d3 m3 F3 α3 H3 z e3 W3 R3 rz p3 => ?_
  split at p3
  · rename_i m4 h4
    exact setL_of W3 (ry.mono W2.nf e3) rz ((rx.mono W1.nf e2).mono W2.nf e3) h4 fun H' e' W' => p3 _ _ _ _ e' W' (R3.mono W3.nf e')
  · exact p3.elim
theorem pp_setS (ho : PE X o (tP X.K E fo)) (hi : PE X i (tP X.K E fi)) (he : PE X e (tP X.K E fv))
    (ha : ∀ v, assign (.Subscript o i tpos) X.env v = (do
      let ov ← holding [v] (eval o X.env)
      let iv ← holding [v, ov] (eval i X.env)
      standAt tpos
      holding [v, ov, iv] (setItem ov iv v)
      release [v, ov, iv] []) := by intro _; rfl) (hs : swapsWithSole [.Subscript o i tpos] e pos.line X.env = pure false := by rfl) (hw : swappedStores [.Subscript o i tpos] e X.env = pure none := by rfl)
    (h1 : (assignEach [.Subscript o i tpos] X.env).map (·.2) = [assign (.Subscript o i tpos) X.env] := by rfl) : PS X (.Assign [.Subscript o i tpos] e pos) (tS X.K E (fSetS fo fi fv)) :=
  ps_imp (ps_asg he (pg_sub ho hi set_list ha) hs hw h1) fun D σ H w => tSub_of w
theorem p_ipadd {K : PySem.W.Frag} : OpP K (ipI fun i j => i + j) oPlus := by
  intro F α m H d e x y Q E W rx ry p
  unfold oPlus at p
  split at p
  · cases rx; cases ry
    exact ⟨_, _, rfl, rfl, p.here W (.int _)⟩
  · exact p.elim
theorem p_ipsub {K : PySem.W.Frag} : OpP K (ipI fun i j => i - j) oSub := by
  intro F α m H d e x y Q E W rx ry p
  unfold oSub at p
  split at p
  · cases rx; cases ry
    exact ⟨_, _, rfl, rfl, p.here W (.int _)⟩
  · exact p.elim
theorem pp_aug {n : Nat} {op : Operator} {ti : TIp} {oo : P → P → M → Res P} {pos' : Pos} (hN : X.N.Nodup) (hi : X.N[n]? = some x) (hx : Loc X.env.scope x) (he : PE X e (tP X.K E fe)) (hr : PIp X op ti) (ho : OpP X.K ti oo)
    (hf : X.fn x = true ∨ X.env.scope.names.lookup x = some .local := by first | exact .inl rfl | exact .inr rfl | assumption) : PS X (.AugAssign (.Name x pos') op e pos) (tS X.K E (fAug n oo fe)) :=
  ps_imp (ps_aug hN hi hx he hr hf) fun D σ H ⟨ρ, m, F, α, W, R, p⟩ => by
    unfold fAug at p
    split at p
    · rename_i d hd
      obtain ⟨v, e1, r1⟩ := R.2 n d hd
      exact ⟨v, e1, tP_outs W R p fun d2 m1 F1 α1 H1 y e2 W1 R1 ry p1 => ho (E := E σ) W1 (r1.mono W.nf e2) ry (Post.outs W1 R1 p1 fun d3 m2 F2 α2 H2 z e3 W2 R2 rz p2 => p2 _ _ _ _ Ex.refl W2 (R2.set rz n))⟩
    · exact p.elim
theorem pp_augS {op : Operator} {ti : TIp} {oo : P → P → M → Res P} (ho : PE X o (tP X.K E fo)) (hi : PE X i (tP X.K E fi)) (he : PE X e (tP X.K E fe)) (hr : PIp X op ti) (hop : OpP X.K ti oo)
    (ha : ∀ ov iv new, augStore i ov iv new = (do holding [new, ov, iv] (setItem ov iv new); release [new, ov, iv] []; pure .next) := by intros; rfl) : PS X (.AugAssign (.Subscript o i tpos) op e pos) (tS X.K E (fAugS fo fi oo fe)) :=
  ps_imp (ps_augS ho hi get_list he hr set_list ha) fun D σ H ⟨ρ, m, F, α, W, R, p⟩ => tP_outs W R p fun d m1 F1 α1 H1 x e1 W1 R1 rx p1 => tP_outs W1 R1 p1 fun d2 m2 F2 α2 H2 y e2 W2 R2 ry p2 => by
    have rx2 := rx.mono W1.nf e2
    have key : ∀ {G : VK}, (∀ d3 m3 F3 α3 H3 z, Ex F2 α2 H2 F3 α3 H3 → Wk X.K F3 α3 m3 H3 → EnvR X.K F3 α3 H3 ρ σ → Rp X.K F3 α3 H3 d3 z → PostS X.K ((fe ρ m3).outs ρ fun e m4 => (oo d3 e m4).outs ρ fun z m5 => match oSet d d2 z m5 with
        | some m6 => .nx ρ m6
        | none => .stuck) F3 α3 H3 D E → G z H3) → rIxL X.K x y H2 G := fun {G} hk => by
      unfold oIxL at p2
      split at p2
      · split at p2
        · rename_i xs hx
          split at p2
          · rename_i zz hz
            cases ry
            obtain ⟨a, vs, rfl, e3, r3⟩ := lv_ok W2 rx2 hx
            obtain ⟨w, h1, h2⟩ := r3.atI hz
            exact ⟨a, vs, _, w, rfl, rfl, e3, h1, hk _ _ _ _ _ _ Ex.refl W2 R2 h2 p2⟩
          · exact p2.elim
        · exact p2.elim
      · exact p2.elim
    exact key fun d3 m3 F3 α3 H3 z e3 W3 R3 rz p3 => tP_outs W3 R3 p3 fun d4 m4 F4 α4 H4 u e4 W4 R4 ru p4 => hop (E := E σ) W4 (rz.mono W3.nf e4) ru (Post.outs W4 R4 p4 fun d5 m5 F5 α5 H5 q e5 W5 R5 rq p5 => by
      split at p5
      · rename_i m6 h6
        exact setL_of W5 (((rx2.mono W2.nf e3).mono W3.nf e4).mono W4.nf e5) (((ry.mono W2.nf e3).mono W3.nf e4).mono W4.nf e5) rq h6 fun H' e' W' => p5 _ _ _ _ e' W' (R5.mono W5.nf e')
      · exact p5.elim)
end
end
/-! N5 -/
section
open PySem PySem.Spec PyProof.Rows
/-- what a loop walks: its items; the cells that must stay as they are -/
structure Src where
  items : List P
  chk : List (Nat × List P)
def chkOk (m : M) : List (Nat × List P) → Prop
  | [] => True
  | p :: r => m[p.1]? = some (.lst p.2) ∧ chkOk m r
noncomputable instance (m : M) (c : List (Nat × List P)) : Decidable (chkOk m c) := Classical.propDecidable _
abbrev FI := Env → M → Res Src
/-- the walk J yields these items -/
def ItP (K : PySem.W.Frag) (F : Addr → Prop) (α : List Addr) (H : Hp) (s : Src) (J : It) : Prop := ∀ F' α' m' H', Ex F α H F' α' H' → Wk K F' α' m' H' → chkOk m' s.chk →
  (∀ i d, s.items[i]? = some d → J.go i H' ∧ ∀ x H'', J.yld i H' x H'' → ∃ F'', Ex F' α' H' F'' α' H'' ∧ Wk K F'' α' m' H'' ∧ Rp K F'' α' H'' d x) ∧ J.stop s.items.length H'
theorem ItP.mono {K F α H F' α' H' s J} (h : ItP K F α H s J) (e : Ex F α H F' α' H') : ItP K F' α' H' s J := fun F2 α2 m2 H2 e2 => h F2 α2 m2 H2 (e.trans e2)
def tI (K : PySem.W.Frag) (E : St → XK) (f : FI) : TI := fun σ H R => ∃ ρ m F α, Wk K F α m H ∧ EnvR K F α H ρ σ ∧ Post K (fun F α H s J => ItP K F α H s J) (f ρ m) F α H R (E σ)
/-! ### for -/
noncomputable def forG (g : Tg) (body : FS) (chk : List (Nat × List P)) : List P → Env → M → Out
  | [], ρ, m => if chkOk m chk then .nx ρ m else .stuck
  | x :: xs, ρ, m => if chkOk m chk then match g.put x ρ with
    | some ρ1 => match body ρ1 m with
      | .nx ρ2 m2 => forG g body chk xs ρ2 m2
      | .ct ρ2 m2 => forG g body chk xs ρ2 m2
      | .bk ρ2 m2 => .nx ρ2 m2
      | o => o
    | none => .stuck
    else .stuck
noncomputable def fFor (fi : FI) (g : Tg) (body : FS) : FS := fun ρ m => (fi ρ m).outs ρ fun s m1 => forG g body s.chk s.items ρ m1
theorem iteO {p : Prop} [Decidable p] {K F α H D E} {o : Out} (h : PostS K (if p then o else .stuck) F α H D E) : p ∧ PostS K o F α H D E := by
  by_cases hp : p
  · rw [if_pos hp] at h; exact ⟨hp, h⟩
  · rw [if_neg hp] at h; exact h.elim
section
variable {X : Cx} {E : St → XK} {a b c e o i it : Expr} {es : List Expr} {rest : List Stmt} {s : Stmt} {sa sb : List Stmt} {pos p2 apos cpos tpos p : Pos} {fa fb fc fo fi fv fe : FE} {tc : FT} {f g : FS} {x : Str} {tg : Expr} {t : Tg} {ff : FI}
theorem for_of {K : PySem.W.Frag} {D σ H} (w : tS K E (fFor ff t f) D σ H) : tFor (tI K E ff) (t.rd K) (tS K E f) D σ H := by
  obtain ⟨ρ, m, F, α, W, R, p⟩ := w
  refine ⟨ρ, m, F, α, W, R, Post.outs W R p fun s m1 F1 α1 H1 J e1 W1 R1 hJ p1 => ?_⟩
  refine ⟨fun i k σ' H' => k = s.items.length - i ∧ i ≤ s.items.length ∧ ∃ ρ' m' F' α', Ex F1 α1 H1 F' α' H' ∧ Wk K F' α' m' H' ∧ EnvR K F' α' H' ρ' σ' ∧ PostS K (forG t f s.chk (s.items.drop i) ρ' m') F' α' H' D E,
    ⟨s.items.length, by simp, Nat.zero_le _, ρ, m1, F1, α1, Ex.refl, W1, R1, by rw [List.drop_zero]; exact p1⟩, ?_⟩
  rintro i k σ' H' ⟨rfl, hi, ρ', m', F', α', e', W', R', p'⟩
  by_cases hlt : i < s.items.length
  · rw [List.drop_eq_getElem_cons hlt, forG] at p'
    obtain ⟨hc, p'⟩ := iteO p'
    obtain ⟨h1, h2⟩ := hJ F' α' m' H' e' W' hc
    obtain ⟨hgo, hy⟩ := h1 i _ (List.getElem?_eq_getElem hlt)
    split at p'
    · rename_i ρ1 hput
      refine .inr ⟨hgo, fun σ2 H2 => ∃ m2, m2 < s.items.length - i ∧ (m2 = s.items.length - (i + 1) ∧ i + 1 ≤ s.items.length ∧ ∃ ρ' m' F' α', Ex F1 α1 H1 F' α' H2 ∧ Wk K F' α' m' H2 ∧ EnvR K F' α' H2 ρ' σ2 ∧ PostS K (forG t f s.chk (s.items.drop (i + 1)) ρ' m') F' α' H2 D E), fun σ2 H2 h => h, fun xv H2 hyl => ?_⟩
      obtain ⟨F2, e2, W2, r2⟩ := hy xv H2 hyl
      refine t.sound (R'.mono W'.nf e2) r2 hput fun σ2 R2 _ _ => ⟨ρ1, m', F2, α', W2, R2, ?_⟩
      have p2 := p'.mono e2
      cases hb : f ρ1 m' with
      | nx ρ2 m2 =>
        rw [hb] at p2
        exact fun σ3 F3 α3 H3 e3 W3 R3 => ⟨_, by omega, rfl, hlt, ρ2, m2, F3, α3, e'.trans (e2.trans e3), W3, R3, p2.mono e3⟩
      | ct ρ2 m2 =>
        rw [hb] at p2
        exact fun σ3 F3 α3 H3 e3 W3 R3 => ⟨_, by omega, rfl, hlt, ρ2, m2, F3, α3, e'.trans (e2.trans e3), W3, R3, p2.mono e3⟩
      | bk ρ2 m2 =>
        rw [hb] at p2
        exact fun σ3 F3 α3 H3 e3 W3 R3 => p2 σ3 F3 α3 H3 e3 W3 R3
      | rt d m2 => rw [hb] at p2; exact p2
      | exc c fs ρ2 m2 => rw [hb] at p2; exact p2
      | stuck => rw [hb] at p2; exact p2.elim
    · exact p'.elim
  · have hi' : i = s.items.length := by omega
    subst hi'
    rw [List.drop_length, forG] at p'
    obtain ⟨hc, p'⟩ := iteO p'
    obtain ⟨h1, h2⟩ := hJ F' α' m' H' e' W' hc
    exact .inl ⟨h2, p' σ' _ _ _ Ex.refl W' R'⟩
theorem pp_for (hp : PassesOwn (model X.prog X.w) X.A X.env X.xe) (hc : X.calm = true) (hi : PI X tg it (tI X.K E ff)) (hg : PG X tg (t.rd X.K)) (hb : PSs X sa (tS X.K E f))
    (hs : ∀ x, foldedSetIterable it X.env x = pure x := by intro _; rfl) : PS X (.For tg it sa [] pos) (tS X.K E (fFor ff t f)) := ps_imp (ps_for hp hc hi hg hb hs) fun D σ H w => for_of w
/-! ### while -/
end
def whileG (c : FT) (body : FS) : Nat → Env → M → Out
  | 0, _, _ => .stuck
  | n + 1, ρ, m => (c ρ m).outs ρ fun b m1 => if b = true then match body ρ m1 with
      | .nx ρ2 m2 => whileG c body n ρ2 m2
      | .ct ρ2 m2 => whileG c body n ρ2 m2
      | .bk ρ2 m2 => .nx ρ2 m2
      | o => o
    else .nx ρ m1
/-- more turns than any loop here takes -/
def manyTurns : Nat := 1000000
def fWhile (c : FT) (body : FS) : FS := whileG c body manyTurns
section
variable {X : Cx} {E : St → XK} {c : Expr} {sa : List Stmt} {pos : Pos} {tc : FT} {f : FS}
theorem while_of {K : PySem.W.Frag} {D σ H} (w : tS K E (fWhile tc f) D σ H) : tWhile (tT K E tc) (tS K E f) D σ H := by
  obtain ⟨ρ, m, F, α, W, R, p⟩ := w
  refine ⟨fun k σ' H' => ∃ ρ' m' F' α', Wk K F' α' m' H' ∧ EnvR K F' α' H' ρ' σ' ∧ PostS K (whileG tc f k ρ' m') F' α' H' D E, ⟨manyTurns, ρ, m, F, α, W, R, p⟩, ?_⟩
  rintro k σ' H' ⟨ρ', m', F', α', W', R', p'⟩
  cases k with
  | zero => exact p'.elim
  | succ k =>
    rw [whileG] at p'
    refine tT_outs W' R' p' fun b m1 F1 α1 H1 e1 W1 R1 p1 => ?_
    cases b with
    | true =>
      rw [if_pos rfl] at p1 ⊢
      refine ⟨fun σ2 H2 => ∃ m2, m2 < k + 1 ∧ (m2 = k ∧ ∃ ρ' m' F' α', Wk K F' α' m' H2 ∧ EnvR K F' α' H2 ρ' σ2 ∧ PostS K (whileG tc f k ρ' m') F' α' H2 D E), fun σ2 H2 ⟨m2, h1, h2, h3⟩ => ⟨m2, h1, by subst h2; exact h3⟩, ρ', m1, F1, α1, W1, R1, ?_⟩
      cases hb : f ρ' m1 with
      | nx ρ2 m2 =>
        rw [hb] at p1
        exact fun σ3 F3 α3 H3 e3 W3 R3 => ⟨k, by omega, rfl, ρ2, m2, F3, α3, W3, R3, p1.mono e3⟩
      | ct ρ2 m2 =>
        rw [hb] at p1
        exact fun σ3 F3 α3 H3 e3 W3 R3 => ⟨k, by omega, rfl, ρ2, m2, F3, α3, W3, R3, p1.mono e3⟩
      | bk ρ2 m2 =>
        rw [hb] at p1
        exact fun σ3 F3 α3 H3 e3 W3 R3 => p1 σ3 F3 α3 H3 e3 W3 R3
      | rt d m2 => rw [hb] at p1; exact p1
      | exc c fs ρ2 m2 => rw [hb] at p1; exact p1
      | stuck => rw [hb] at p1; exact p1.elim
    | false =>
      rw [if_neg Bool.false_ne_true] at p1 ⊢
      exact p1 _ _ _ _ Ex.refl W1 R1
theorem pp_while (hp : PassesOwn (model X.prog X.w) X.A X.env X.xe) (hc : PT X c (tT X.K E tc)) (hb : PSs X sa (tS X.K E f)) : PS X (.While c sa [] pos) (tS X.K E (fWhile tc f)) := ps_imp (ps_while hp hc hb) fun D σ H w => while_of w
end
/-! ### comprehensions -/
def wipeP (ρ : Env) : List Nat → Env
  | [] => ρ
  | v :: vs => (wipeP ρ vs).set v none
/-- nothing is raised here -/
def Res.calm {β : Type} (r : Res β) : Res β := match r with
  | .ok d m => .ok d m
  | _ => .stuck
noncomputable def lcG (g : Tg) (tt : FT) (te : FE) (chk : List (Nat × List P)) (ρ : Env) : List P → M → Res (List P)
  | [], m => if chkOk m chk then .ok [] m else .stuck
  | x :: xs, m => if chkOk m chk then match g.put x ρ with
    | some ρ1 => (tt ρ1 m).calm.bind fun b m1 => if b = true then (te ρ1 m1).calm.bind fun y m2 => (lcG g tt te chk ρ xs m2).bind fun ys m3 => .ok (y :: ys) m3 else lcG g tt te chk ρ xs m1
    | none => .stuck
    else .stuck
noncomputable def fLc (cc : Bool) (fi : FI) (g : Tg) (tt : FT) (te : FE) (vs : List Nat) : FE := fun ρ m => (fi ρ m).bind fun s m1 => if fits s.items.length = true then (lcG g tt te s.chk (wipeP ρ vs) s.items m1).bind fun ys m2 => mkL cc ys m2 else .stuck
def fYes : FT := fun _ m => .ok true m
theorem wipe_get (σ : St) : ∀ (vs : List Nat) (j : Nat), (wipe σ vs)[j]? = if j ∈ vs then (if j < σ.length then some none else none) else σ[j]?
  | [], j => by simp [wipe]
  | v :: vs, j => by
    have hl : (wipe σ vs).length = σ.length := by
      clear j
      induction vs with
      | nil => rfl
      | cons v vs ih => rw [wipe, List.length_set, ih]
    rw [wipe, List.getElem?_set, hl, wipe_get σ vs j]
    by_cases h : v = j
    · subst h
      simp
    · have h' : ¬ j = v := fun e => h e.symm
      simp [h, h']
theorem wipe_len (σ : St) (vs : List Nat) : (wipe σ vs).length = σ.length := by
  induction vs with
  | nil => rfl
  | cons v vs ih => rw [wipe, List.length_set, ih]
theorem wipe_ext {σ σ' : St} {vs : List Nat} (hl : σ'.length = σ.length) (h : ∀ j, j ∉ vs → σ'[j]? = σ[j]?) : wipe σ' vs = wipe σ vs := by
  apply List.ext_getElem?
  intro j
  rw [wipe_get, wipe_get, hl]
  by_cases hj : j ∈ vs
  · rw [if_pos hj, if_pos hj]
  · rw [if_neg hj, if_neg hj, h j hj]
theorem wipe_idem (σ : St) (vs : List Nat) : wipe (wipe σ vs) vs = wipe σ vs := wipe_ext (wipe_len σ vs) fun j hj => by rw [wipe_get, if_neg hj]
theorem wipeP_eq (ρ : Env) : ∀ (vs : List Nat) (j : Nat), (wipeP ρ vs)[j]? = if j ∈ vs then (if j < ρ.length then some none else none) else ρ[j]?
  | [], j => by simp [wipeP]
  | v :: vs, j => by
    have hl : (wipeP ρ vs).length = ρ.length := by
      clear j
      induction vs with
      | nil => rfl
      | cons v vs ih => rw [wipeP, List.length_set, ih]
    rw [wipeP, List.getElem?_set, hl, wipeP_eq ρ vs j]
    by_cases h : v = j
    · subst h
      simp
    · have h' : ¬ j = v := fun e => h e.symm
      simp [h, h']
theorem wipeP_len (ρ : Env) (vs : List Nat) : (wipeP ρ vs).length = ρ.length := by
  induction vs with
  | nil => rfl
  | cons v vs ih => rw [wipeP, List.length_set, ih]
theorem EnvR.wipe {K F α H ρ σ} (h : EnvR K F α H ρ σ) (vs : List Nat) : EnvR K F α H (wipeP ρ vs) (wipe σ vs) := by
  refine ⟨by rw [wipeP_len, wipe_len]; exact h.1, fun i d hd => ?_⟩
  rw [wipeP_eq] at hd
  by_cases hi : i ∈ vs
  · rw [if_pos hi] at hd
    split at hd <;> cases hd
  · rw [if_neg hi] at hd
    obtain ⟨v, h1, h2⟩ := h.2 i d hd
    exact ⟨v, by rw [wipe_get, if_neg hi]; exact h1, h2⟩
/-- .. what is wanted stays as of an earlier heap -/
theorem Post.bindB {β δ γ γ' : Type} {K} {RR : (Addr → Prop) → List Addr → Hp → β → γ → Prop} {R2 : (Addr → Prop) → List Addr → Hp → δ → γ' → Prop} {Q : γ' → Hp → Prop} {G : γ → Hp → Prop} {r : Res β} {k : β → M → Res δ} {F0 α0 H0 F α H} {E E' : XK}
    (h : Post K R2 (r.calm.bind k) F0 α0 H0 Q E) (hk : ∀ d m1 F1 α1 H1 x, Ex F α H F1 α1 H1 → Wk K F1 α1 m1 H1 → RR F1 α1 H1 d x → Post K R2 (k d m1) F0 α0 H0 Q E → G x H1) : Post K RR r F α H G E' := by
  cases r with
  | ok d m => exact fun v F' α' H' e W R => hk d m F' α' H' v e W R h
  | exc c fs m => exact h.elim
  | stuck => exact h
theorem Res.bind_bind {β γ δ : Type} (r : Res β) (f : β → M → Res γ) (g : γ → M → Res δ) : (r.bind f).bind g = r.bind fun b m => (f b m).bind g := by cases r <;> rfl
theorem Res.bind_calm {β γ δ : Type} (r : Res β) (f : β → M → Res γ) (g : γ → M → Res δ) : (r.calm.bind f).bind g = r.calm.bind fun b m => (f b m).bind g := Res.bind_bind _ _ _
section
variable {X : Cx} {E E' : St → XK} {ff : FI} {t : Tg} {ft : FT} {fe : FE} {vs : List Nat}
theorem lc_of {K : PySem.W.Frag} {cc : Bool} {σ H Q} (hv : ∀ j ∈ t.slots, j ∈ vs) (w : tP K E (fLc cc ff t ft fe vs) σ H Q) : tLc (tI K E ff) (t.rd K) (tT K E' ft) (tP K E' fe) vs σ H Q := by
  obtain ⟨ρ, m, F, α, W, R, p⟩ := w
  refine ⟨ρ, m, F, α, W, R, Post.bind p fun s m1 F1 α1 H1 J e1 W1 hJ p1 D hD => ?_⟩
  obtain ⟨hfit, p1⟩ := iteG p1
  have hn : s.items.length ≤ 100000 := of_decide_eq_true hfit
  have R1 : EnvR K F1 α1 H1 (wipeP ρ vs) (L2.wipe σ vs) := (R.mono W.nf e1).wipe vs
  have hDF : ¬ F1 D := fun q => by obtain ⟨o, ho⟩ := W1.fr D q; rw [hD] at ho; cases ho
  have hDα : D ∉ α1 := fun q => by obtain ⟨_, _, o, _, _, ho, _⟩ := W1.has q; rw [hD] at ho; cases ho
  refine ⟨fun i k H' => k = s.items.length - i ∧ i ≤ s.items.length ∧ ∃ acc av m' F' α', acc.length ≤ i ∧ Ex F1 α1 H1 F' α' H' ∧ Wk K F' α' m' H' ∧ H' D = some (.lst av) ∧ ¬ F' D ∧ D ∉ α' ∧ Rps K F' α' H' acc av ∧
      Post K (VR K) ((lcG t ft fe s.chk (wipeP ρ vs) (s.items.drop i) m').bind fun ys m2 => mkL cc (acc ++ ys) m2) F1 α1 H1 Q (E σ), ⟨s.items.length, by simp, Nat.zero_le _, [], [], m1, F1, α1, Nat.le_refl _, ?_, ?_, upd_same, hDF, hDα, .nil, by rw [List.drop_zero]; exact p1⟩, ?_⟩
  · exact ⟨fun _ h => h, ⟨[], (List.append_nil _).symm⟩, fun a u e _ => by rw [upd_ne (ne_of_none e hD)]; exact e, fun _ h n => absurd h n, fun _ _ h _ _ => h⟩
  · have e : Ex F1 α1 H1 F1 α1 (upd H1 D (.lst [])) := ⟨fun _ h => h, ⟨[], (List.append_nil _).symm⟩, fun a u e _ => by rw [upd_ne (ne_of_none e hD)]; exact e, fun _ h n => absurd h n, fun _ _ h _ _ => h⟩
    refine ⟨W1.len, W1.nd, W1.nf, fun a h => ?_, fun n c a hn ha => ?_⟩
    · obtain ⟨o, ho⟩ := W1.fr a h
      exact ⟨o, by rw [upd_ne (ne_of_none ho hD)]; exact ho⟩
    · obtain ⟨o, ho, hc⟩ := W1.at_ n c a hn ha
      exact ⟨o, by rw [upd_ne (ne_of_none ho hD)]; exact ho, hc.mono W1.nf e⟩
  rintro i k H' ⟨rfl, hi, acc, av, m', F', α', hacc, e', W', hD', hF', hα', ra, p'⟩
  by_cases hlt : i < s.items.length
  · rw [List.drop_eq_getElem_cons hlt, lcG] at p'
    by_cases hc : chkOk m' s.chk
    · rw [if_pos hc] at p'
      obtain ⟨h1, h2⟩ := hJ F' α' m' H' e' W' hc
      obtain ⟨hgo, hy⟩ := h1 i _ (List.getElem?_eq_getElem hlt)
      split at p'
      · rename_i ρ1 hput
        refine .inr ⟨hgo, fun H2 => ∃ m2, m2 < s.items.length - i ∧ (m2 = s.items.length - (i + 1) ∧ i + 1 ≤ s.items.length ∧ ∃ acc av m' F' α', acc.length ≤ i + 1 ∧ Ex F1 α1 H1 F' α' H2 ∧ Wk K F' α' m' H2 ∧ H2 D = some (.lst av) ∧ ¬ F' D ∧ D ∉ α' ∧ Rps K F' α' H2 acc av ∧
          Post K (VR K) ((lcG t ft fe s.chk (wipeP ρ vs) (s.items.drop (i + 1)) m').bind fun ys m2 => mkL cc (acc ++ ys) m2) F1 α1 H1 Q (E σ)), fun H2 h => h, fun xv H2 hyl => ?_⟩
        obtain ⟨F2, e2, W2, r2⟩ := hy xv H2 hyl
        have RR : EnvR K F2 α' H2 (wipeP ρ vs) (L2.wipe σ vs) := (R1.mono W1.nf e').mono W'.nf e2
        -- D stays as it is
        have stay : ∀ {F3 α3 H3 F4 α4 H4 av}, Ex F3 α3 H3 F4 α4 H4 → H3 D = some (.lst av) → ¬ F3 D → D ∉ α3 → H4 D = some (.lst av) ∧ ¬ F4 D ∧ D ∉ α4 := fun e h1 h2 h3 =>
          ⟨e.k D _ h1 h3, fun q => h2 (e.fn D _ q h1 h3), fun q => by have := e.new D q h3; rw [h1] at this; cases this⟩
        obtain ⟨d1, d2, d3⟩ := stay e2 hD' hF' hα'
        rw [Res.bind_calm] at p'
        refine t.sound RR r2 hput fun σ2 R2 ag l2 => ⟨(wipe_ext l2 fun j hj => ag j fun q => hj (hv j q)).trans (wipe_idem σ vs), ρ1, m', F2, α', W2, R2, Post.bindB p' fun b m3 F3 α3 H3 b' e3 W3 hb p3 => ?_⟩
        cases hb
        obtain ⟨d4, d5, d6⟩ := stay e3 d1 d2 d3
        cases b with
        | true =>
          rw [if_pos rfl] at p3 ⊢
          rw [Res.bind_calm] at p3
          refine ⟨ρ1, m3, F3, α3, W3, R2.mono W2.nf e3, Post.bindB p3 fun y m4 F4 α4 H4 yv e4 W4 ry p4 => ?_⟩
          obtain ⟨d7, d8, d9⟩ := stay e4 d4 d5 d6
          refine ⟨av, d7, ?_, _, by omega, rfl, hlt, acc ++ [y], av ++ [yv], m4, F4, α4, ?_, ?_, (W4.apart d8 d9).2, upd_same, d8, d9, ?_, ?_⟩
          · rw [← ra.length]
            exact Nat.lt_of_le_of_lt (show acc.length ≤ 100000 by omega) (by decide)
          · rw [List.length_append]
            show acc.length + 1 ≤ i + 1
            omega
          · have ee := e'.trans (e2.trans (e3.trans e4))
            exact ⟨ee.f, ee.al, fun a o h n => by rw [upd_ne (ne_of_none h hD)]; exact ee.k a o h n, ee.new, ee.fn⟩
          · exact (((((ra.mono W'.nf e2).mono W2.nf e3).mono W3.nf e4).append (.one ry))).sub (W4.apart d8 d9).1
          · rw [Res.bind_bind] at p4
            simpa only [Res.bind, List.append_assoc, List.cons_append, List.nil_append] using p4
        | false =>
          rw [if_neg Bool.false_ne_true] at p3 ⊢
          exact ⟨_, by omega, rfl, hlt, acc, av, m3, F3, α3, by omega, e'.trans (e2.trans e3), W3, d4, d5, d6, (ra.mono W'.nf e2).mono W2.nf e3, p3⟩
      · exact p'.elim
    · rw [if_neg hc] at p'; exact p'.elim
  · have hi' : i = s.items.length := by omega
    subst hi'
    rw [List.drop_length, lcG] at p'
    by_cases hc : chkOk m' s.chk
    · rw [if_pos hc] at p'
      obtain ⟨h1, h2⟩ := hJ F' α' m' H' e' W' hc
      refine .inl ⟨h2, ?_⟩
      have p2 : Post K (VR K) (mkL cc acc m') F1 α1 H1 Q (E σ) := by simpa only [Res.bind, List.append_nil] using p'
      unfold L2.Q.mkL at p2
      have np : ∀ a, a ∈ α' → a ≠ D := fun a ha q => hα' (by rw [← q]; exact ha)
      split at p2
      · refine p2 _ F' (α' ++ [D]) H' ⟨e'.f, ?_, e'.k, fun a ha n => ?_, e'.fn⟩ ⟨by rw [List.length_append, List.length_append, W'.len]; rfl, ?_, fun a ha hf => ?_, W'.fr, fun n c a hn ha => ?_⟩ (.cell ?_)
        · obtain ⟨l, rfl⟩ := e'.al
          exact ⟨l ++ [D], List.append_assoc _ _ _⟩
        · rcases List.mem_append.mp ha with q | q
          · exact e'.new a q n
          · rw [List.mem_singleton.mp q]; exact hD
        · rw [List.nodup_append]
          exact ⟨W'.nd, List.nodup_cons.mpr ⟨List.not_mem_nil, List.nodup_nil⟩, fun a ha b hb => by rw [List.mem_singleton.mp hb]; exact np a ha⟩
        · rcases List.mem_append.mp ha with q | q
          · exact W'.nf a q hf
          · rw [List.mem_singleton.mp q] at hf; exact hF' hf
        · have sb : Sub F' α' H' F' (α' ++ [D]) H' := ⟨fun _ h => h, fun n a h => by rw [List.getElem?_append_left (List.getElem?_eq_some_iff.mp h).1]; exact h, fun _ _ _ h => h⟩
          by_cases hl : n < m'.length
          · rw [List.getElem?_append_left hl] at hn
            rw [List.getElem?_append_left (by rw [W'.len]; exact hl)] at ha
            obtain ⟨o', ho, hc'⟩ := W'.at_ n c a hn ha
            exact ⟨o', ho, hc'.sub sb⟩
          · rw [List.getElem?_append_right (by omega)] at hn
            rw [List.getElem?_append_right (by rw [W'.len]; omega), W'.len] at ha
            cases hk : n - m'.length with
            | zero =>
              rw [hk] at hn ha
              cases hn; cases ha
              exact ⟨_, hD', ra.sub sb⟩
            | succ k => rw [hk] at hn; cases hn
        · rw [← W'.len, List.getElem?_append_right (Nat.le_refl _), Nat.sub_self]; rfl
      · refine p2 _ (fun a => F' a ∨ a = D) α' H' ⟨fun a h => .inl (e'.f a h), e'.al, e'.k, e'.new, fun a o hf h n => hf.elim (fun q => e'.fn a o q h n) fun q => by rw [q, hD] at h; cases h⟩ ⟨W'.len, W'.nd, fun a ha hf => hf.elim (W'.nf a ha) (np a ha), fun a hf => hf.elim (W'.fr a) fun q => ⟨HO.lst av, by subst q; exact hD'⟩, fun n c a hn ha => ?_⟩ (.lst (.inr rfl) hD' ?_)
        · obtain ⟨o', ho, hc'⟩ := W'.at_ n c a hn ha
          exact ⟨o', ho, hc'.sub ⟨fun _ h => .inl h, fun _ _ h => h, fun _ _ _ h => h⟩⟩
        · exact ra.sub ⟨fun _ h => .inl h, fun _ _ h => h, fun _ _ _ h => h⟩
    · rw [if_neg hc] at p'; exact p'.elim
end
section
variable {X : Cx} {E : St → XK} {elt tg iter : Expr} {ifs : List Expr} {scope : Scope} {own : List (Str × Nat)} {pos spos : Pos} {ff : FI} {t : Tg} {ft : FT} {fe : FE}
theorem pp_tnil : PTs X [] (tT X.K E fYes) := ⟨fun pins s σ H Q I ⟨ρ, m, F, α, W, R, p⟩ => pts_nil.run pins s σ H Q I (p.here W rfl)⟩
theorem pp_tone {c : Expr} (h : PT X c (tT X.K E ft)) : PTs X [c] (tT X.K E ft) := pts_one h
theorem pp_lc (cc : Bool) (hc : X.calm = true) (hN : X.N.Nodup) (hi : PI X tg iter (tI X.K E ff)) (ok : BlkOk X.N X.env.scope scope own) (hv : ∀ j ∈ t.slots, j ∈ own.map (·.2))
    (hg : ∀ (s : Shared) (H : Hp) (C : Addr) (cl : List (Str × Addr)) (fp : List Addr), PG (X.blk s H scope (compEnvC scope cl C X.env) fp) tg (t.rd X.K)) (ht : ∀ (s : Shared) (H : Hp) (C : Addr) (cl : List (Str × Addr)) (fp : List Addr), PTs (X.blk s H scope (compEnvC scope cl C X.env) fp) ifs (tT X.K (fun _ => E0) ft))
    (he : ∀ (s : Shared) (H : Hp) (C : Addr) (cl : List (Str × Addr)) (fp : List Addr), PE (X.blk s H scope (compEnvC scope cl C X.env) fp) elt (tP X.K (fun _ => E0) fe)) (hs : ∀ x, foldedSetIterable iter X.env x = pure x := by intro _; rfl) :
    PE X (.ListComp elt [⟨tg, iter, ifs, 0⟩] scope pos) (tP X.K E (fLc cc ff t ft fe (own.map (·.2)))) := pe_imp (pe_lc hc hN hi ok hg ht he hs) fun σ H Q w => lc_of hv w
theorem pp_setLc {i : Nat} {y : Str} {py : Pos} (cc : Bool) (hc : X.calm = true) (hN : X.N.Nodup) (hy : X.N[i]? = some y) (hyl : X.env.scope.names.lookup y = some .local)
    (hsw : swapsWith (.ListComp elt [⟨tg, iter, ifs, 0⟩] scope pos) (some (.Name y py)) spos.line X.env = pure true) (hi : PI X tg iter (tI X.K E ff)) (ok : BlkOk X.N X.env.scope scope own) (hv : ∀ j ∈ t.slots, j ∈ own.map (·.2))
    (hg : ∀ (s : Shared) (H : Hp) (C : Addr) (cl : List (Str × Addr)) (fp : List Addr), PG (X.blk s H scope (compEnvC scope cl C X.env) fp) tg (t.rd X.K)) (ht : ∀ (s : Shared) (H : Hp) (C : Addr) (cl : List (Str × Addr)) (fp : List Addr), PTs (X.blk s H scope (compEnvC scope cl C X.env) fp) ifs (tT X.K (fun _ => E0) ft))
    (he : ∀ (s : Shared) (H : Hp) (C : Addr) (cl : List (Str × Addr)) (fp : List Addr), PE (X.blk s H scope (compEnvC scope cl C X.env) fp) elt (tP X.K (fun _ => E0) fe)) (hs : ∀ x, foldedSetIterable iter X.env x = pure x := by intro _; rfl) :
    PS X (.Assign [.Name y py] (.ListComp elt [⟨tg, iter, ifs, 0⟩] scope pos) spos) (tS X.K E (fAsg (.name i) (fLc cc ff t ft fe (own.map (·.2))))) := by
  refine ps_imp (ps_setLc hc hN hy hyl hsw hi ok hg ht he hs) fun D σ H ⟨ρ, m, F, α, W, R, p⟩ => ?_
  have q : tP X.K E (fLc cc ff t ft fe (own.map (·.2))) σ H (fun x H1 => (Tg.name i).rd X.K x σ H1 D.nx) := tP_outs W R p fun d m1 F1 α1 H1 x e1 W1 R1 rx p1 => p1 _ _ _ _ Ex.refl W1 (R1.set rx i)
  exact lc_of hv q
end
/-! ### what is walked -/
def iSeq (fe : FE) : FI := fun ρ m => (fe ρ m).bind fun d m1 => match d with
  | .tup xs => .ok ⟨xs, []⟩ m1
  | .lst xs => .ok ⟨xs, []⟩ m1
  | .xls xs => .ok ⟨xs, []⟩ m1
  | .str z => .ok ⟨z.cps.toList.map fun c => .str ⟨#[c]⟩, []⟩ m1
  | .cell n => match m1[n]? with
    | some (.lst xs) => .ok ⟨xs, [(n, xs)]⟩ m1
    | _ => .stuck
  | _ => .stuck
def rngP (lo : Int) (n : Nat) : List P := (List.range n).map fun (i : Nat) => .int (lo + (i : Int))
def iR1 (fa : FA) : FI := fun ρ m => (fa ρ m).bind fun ds m1 => match ds with
  | [.int j] => if decide (-(2 ^ 62) ≤ j ∧ j < 2 ^ 62) = true then .ok ⟨rngP 0 j.toNat, []⟩ m1 else .stuck
  | _ => .stuck
def iR2 (fa : FA) : FI := fun ρ m => (fa ρ m).bind fun ds m1 => match ds with
  | [.int i, .int j] => if decide (-(2 ^ 62) ≤ i ∧ i < 2 ^ 62 ∧ -(2 ^ 62) ≤ j ∧ j < 2 ^ 62) = true then .ok ⟨rngP i (j - i).toNat, []⟩ m1 else .stuck
  | _ => .stuck
/-- enumerate of a list -/
def enumP (xs : List P) : List P := (List.range xs.length).zipWith (fun (i : Nat) x => .tup [.int (i : Int), x]) xs
section
variable {K : PySem.W.Frag} {F : Addr → Prop} {α : List Addr} {H : Hp} {m : M}
theorem itT {a : Addr} {xs : List P} {vs : List V} (f : F a) (e : H a = some (.tup vs)) (W : Wk K F α m H) (r : Rps K F α H xs vs) : ItP K F α H ⟨xs, []⟩ (Itt K a) := by
  intro F' α' m' H' e' W' _
  have e2 : H' a = some (.tup vs) := (e'.sub W.nf).k a _ f e
  have r2 := r.mono W.nf e'
  refine ⟨fun i d hd => ?_, ⟨vs, Evl.st_of e2, by rw [r2.length]; exact Nat.le_refl _⟩⟩
  obtain ⟨w, h1, h2⟩ := r2.get hd
  exact ⟨⟨vs, w, Evl.st_of e2, h1⟩, fun x H'' ⟨q1, q2⟩ => by
    subst q1
    have := q2 vs (Evl.st_of e2)
    rw [h1] at this; cases this
    exact ⟨F', Ex.refl, W', h2⟩⟩
theorem itL {a : Addr} {xs : List P} {vs : List V} (st : ∀ F' α' m' H', Ex F α H F' α' H' → Wk K F' α' m' H' → SqL K H' a vs) (W : Wk K F α m H) (r : Rps K F α H xs vs) : ItP K F α H ⟨xs, []⟩ (Itl K a) := by
  intro F' α' m' H' e' W' _
  have e2 := st F' α' m' H' e' W'
  have r2 := r.mono W.nf e'
  refine ⟨fun i d hd => ?_, ⟨vs, e2, by rw [r2.length]; exact Nat.le_refl _⟩⟩
  obtain ⟨w, h1, h2⟩ := r2.get hd
  exact ⟨⟨vs, w, e2, h1⟩, fun x H'' ⟨q1, q2⟩ => by
    subst q1
    have := q2 vs e2
    rw [h1] at this; cases this
    exact ⟨F', Ex.refl, W', h2⟩⟩
theorem itC {n : Nat} {a : Addr} {xs : List P} (ha : α[n]? = some a) : ItP K F α H ⟨xs, [(n, xs)]⟩ (Itl K a) := by
  intro F' α' m' H' e' W' hc
  obtain ⟨o, ho, hr⟩ := W'.at_ n _ a hc.1 (al_get ha e')
  cases o <;> first | exact hr.elim | skip
  rename_i vs
  have r2 : Rps K F' α' H' xs vs := hr
  refine ⟨fun i d hd => ?_, ⟨vs, SqL.of ho, by rw [r2.length]; exact Nat.le_refl _⟩⟩
  obtain ⟨w, h1, h2⟩ := r2.get hd
  exact ⟨⟨vs, w, SqL.of ho, h1⟩, fun x H'' ⟨q1, q2⟩ => by
    subst q1
    have := q2 vs (SqL.of ho)
    rw [h1] at this; cases this
    exact ⟨F', Ex.refl, W', h2⟩⟩
theorem itS (z : Str) : ItP K F α H ⟨z.cps.toList.map fun c => .str ⟨#[c]⟩, []⟩ (Its z) := by
  intro F' α' m' H' e' W' _
  refine ⟨fun i d hd => ?_, by simp [Its]⟩
  rw [List.getElem?_map] at hd
  obtain ⟨c, hc, rfl⟩ := Option.map_eq_some_iff.mp hd
  rw [Array.getElem?_toList] at hc
  refine ⟨(Array.getElem?_eq_some_iff.mp hc).1, fun x H'' ⟨q1, c', hc', q2⟩ => ?_⟩
  subst q1 q2
  rw [hc] at hc'; cases hc'
  exact ⟨F', Ex.refl, W', .str _⟩
theorem itR (lo : Int) (n : Nat) : ItP K F α H ⟨rngP lo n, []⟩ (Itr lo n) := by
  intro F' α' m' H' e' W' _
  have hl : (rngP lo n).length = n := by simp [rngP]
  refine ⟨fun i d hd => ?_, by show n ≤ (rngP lo n).length; rw [hl]; exact Nat.le_refl _⟩
  have hi : i < n := by rw [← hl]; exact (List.getElem?_eq_some_iff.mp hd).1
  have hd' : d = .int (lo + (i : Int)) := by
    unfold rngP at hd
    rw [List.getElem?_map, List.getElem?_range hi] at hd
    simpa using hd.symm
  refine ⟨hi, fun x H'' ⟨q1, q2⟩ => ?_⟩
  subst q1 q2 hd'
  exact ⟨F', Ex.refl, W', .int _⟩
end
section
variable {X : Cx} {E : St → XK} {tg e a b : Expr} {p pos : Pos} {fe : FE} {fr : FA}
theorem pp_iSeq (h : PE X e (tP X.K E fe)) : PI X tg e (tI X.K E (iSeq fe)) := by
  refine pi_imp (pi_alt (pi_tup (tg := tg) h) (pi_alt (pi_list (tg := tg) h) (pi_str (tg := tg) h))) fun σ H R ⟨ρ, m, F, α, W, RR, p⟩ => ?_
  cases hf : fe ρ m with
  | stuck => simp only [iSeq, hf, Res.bind] at p; exact p.elim
  | exc c fs m1 =>
    simp only [iSeq, hf, Res.bind] at p
    exact .inl ⟨ρ, m, F, α, W, RR, by rw [hf]; exact p⟩
  | ok d m1 =>
    simp only [iSeq, hf, Res.bind] at p
    have go : ∀ {G : VK}, (∀ F1 α1 H1 x, Ex F α H F1 α1 H1 → Wk X.K F1 α1 m1 H1 → Rp X.K F1 α1 H1 d x → G x H1) → tP X.K E fe σ H G := fun hk => ⟨ρ, m, F, α, W, RR, by rw [hf]; exact fun v F1 α1 H1 e1 W1 r1 => hk F1 α1 H1 v e1 W1 r1⟩
    split at p
    · refine .inl (go fun F1 α1 H1 x e1 W1 r1 => ?_)
      obtain ⟨a, vs, rfl, f, e2, r2⟩ := tv_ok r1
      exact ⟨a, rfl, ⟨vs, Evl.st_of e2⟩, p _ F1 α1 H1 e1 W1 (itT f e2 W1 r2)⟩
    · refine .inr (.inl (go fun F1 α1 H1 x e1 W1 r1 => ?_))
      cases r1
      rename_i a vs f e2 r2
      exact ⟨a, rfl, ⟨vs, SqL.of e2⟩, p _ F1 α1 H1 e1 W1 (itL (fun F' α' m' H' e' W' => SqL.of ((e'.sub W1.nf).k _ _ f e2)) W1 r2)⟩
    · refine .inr (.inl (go fun F1 α1 H1 x e1 W1 r1 => ?_))
      cases r1
      rename_i a vs f r2
      refine ⟨a, rfl, ⟨vs, f.elim (fun q => .inl q.2) fun q => q _⟩, p _ F1 α1 H1 e1 W1 (itL (fun F' α' m' H' e' W' => f.elim (fun q => .inl ?_) fun q => q _) W1 r2)⟩
      exact q.2.imp (fun r => (e'.sub W1.nf).k _ _ q.1 r) fun ⟨o, r⟩ => ⟨o, (e'.sub W1.nf).k _ _ q.1 r⟩
    · refine .inr (.inr (go fun F1 α1 H1 x e1 W1 r1 => ?_))
      cases r1
      exact ⟨_, rfl, p _ F1 α1 H1 e1 W1 (itS _)⟩
    · rename_i n
      split at p
      · rename_i xs hn
        refine .inr (.inl (go fun F1 α1 H1 x e1 W1 r1 => ?_))
        cases r1
        rename_i a ha
        obtain ⟨o, ho, hr⟩ := W1.at_ n _ a hn ha
        cases o <;> first | exact hr.elim | skip
        exact ⟨a, rfl, ⟨_, SqL.of ho⟩, p _ F1 α1 H1 e1 W1 (itC ha)⟩
      · exact p.elim
    · exact p.elim
theorem pp_iR1 (hg : Gl X "range") (hm : X.mg "range" = none) (ha : PA X [a] (tA X.K E fr)) (hs : starEach [a] X.env = [(false, eval a X.env)] := by rfl) : PI X tg (.Call (.Name "range" p) [a] [] pos) (tI X.K E (iR1 fr)) :=
  pi_imp (pi_range1 hg hm ha hs) fun σ H R ⟨ρ, m, F, α, W, RR, p⟩ => ⟨ρ, m, F, α, W, RR, Post.bind p fun ds m1 F1 α1 H1 vs e1 W1 r1 p1 => by
    split at p1
    · obtain ⟨hc, p1⟩ := iteG p1
      obtain ⟨v, rfl, r2⟩ := r1.only
      cases r2
      have h := of_decide_eq_true hc
      exact ⟨_, rfl, h.1, h.2, p1 _ F1 α1 H1 Ex.refl W1 (itR _ _)⟩
    · exact p1.elim⟩
theorem pp_iR2 (hg : Gl X "range") (hm : X.mg "range" = none) (ha : PA X [a, b] (tA X.K E fr)) (hs : starEach [a, b] X.env = [(false, eval a X.env), (false, eval b X.env)] := by rfl) (hs2 : starEach [b] X.env = [(false, eval b X.env)] := by rfl) : PI X tg (.Call (.Name "range" p) [a, b] [] pos) (tI X.K E (iR2 fr)) :=
  pi_imp (pi_range2 hg hm ha hs hs2) fun σ H R ⟨ρ, m, F, α, W, RR, p⟩ => ⟨ρ, m, F, α, W, RR, Post.bind p fun ds m1 F1 α1 H1 vs e1 W1 r1 p1 => by
    split at p1
    · obtain ⟨hc, p1⟩ := iteG p1
      obtain ⟨v, w, rfl, r2, r3⟩ := r1.two
      cases r2; cases r3
      have h := of_decide_eq_true hc
      exact ⟨_, _, rfl, h, p1 _ F1 α1 H1 Ex.refl W1 (itR _ _)⟩
    · exact p1.elim⟩
end
end
/-! N6 -/
section
open PySem PySem.Spec PyProof.Rows
mutual
/-- all cells named stand under n -/
def P.under (n : Nat) : P → Bool
  | .tup xs => P.unders n xs
  | .lst xs => P.unders n xs
  | .xls xs => P.unders n xs
  | .dK kvs => P.underK n kvs
  | .dT kvs => P.underT n kvs
  | .obj _ fs => P.underF n fs
  | .cell k => decide (k < n)
  | _ => true
def P.unders (n : Nat) : List P → Bool
  | [] => true
  | x :: xs => P.under n x && P.unders n xs
def P.underK (n : Nat) : List (Key × P) → Bool
  | [] => true
  | (_, x) :: xs => P.under n x && P.underK n xs
def P.underT (n : Nat) : List (List Key × P) → Bool
  | [] => true
  | (_, x) :: xs => P.under n x && P.underT n xs
def P.underF (n : Nat) : List (Str × P) → Bool
  | [] => true
  | (_, x) :: xs => P.under n x && P.underF n xs
end
theorem underK_eq (n : Nat) : ∀ kvs, P.underK n kvs = P.unders n (kvs.map (·.2))
  | [] => by simp [P.underK, P.unders]
  | (_, x) :: xs => by simp [P.underK, P.unders, underK_eq n xs]
theorem underT_eq (n : Nat) : ∀ kvs, P.underT n kvs = P.unders n (kvs.map (·.2))
  | [] => by simp [P.underT, P.unders]
  | (_, x) :: xs => by simp [P.underT, P.unders, underT_eq n xs]
theorem underF_eq (n : Nat) : ∀ kvs, P.underF n kvs = P.unders n (kvs.map (·.2))
  | [] => by simp [P.underF, P.unders]
  | (_, x) :: xs => by simp [P.underF, P.unders, underF_eq n xs]
def fzs (f : P → Option P) : List P → Option (List P)
  | [] => some []
  | x :: xs => match f x, fzs f xs with
    | some y, some ys => some (y :: ys)
    | _, _ => none
/-- the cells from n on become trees -/
def fz (n : Nat) (m : M) : Nat → P → Option P
  | 0, d => if d.under n = true then some d else none
  | k + 1, d => if d.under n = true then some d else match d with
    | .tup xs => (fzs (fz n m k) xs).map .tup
    | .lst xs => (fzs (fz n m k) xs).map .lst
    | .cell j => match m[j]? with
      | some (.lst xs) => (fzs (fz n m k) xs).map .lst
      | some (.dK kvs) => (fzs (fz n m k) (kvs.map (·.2))).map fun ys => .dK ((kvs.map (·.1)).zip ys)
      | some (.dT kvs) => (fzs (fz n m k) (kvs.map (·.2))).map fun ys => .dT ((kvs.map (·.1)).zip ys)
      | some (.ins C fs) => (fzs (fz n m k) (fs.map (·.2))).map fun ys => .obj C ((fs.map (·.1)).zip ys)
      | none => none
    | _ => none
def Cell.under (n : Nat) : Cell → Bool
  | .lst xs => P.unders n xs
  | .dK kvs => P.unders n (kvs.map (·.2))
  | .dT kvs => P.unders n (kvs.map (·.2))
  | .ins _ fs => P.unders n (fs.map (·.2))
/-- the elder cells are as they were, or name elder cells alone -/
def OkCut (m0 m : M) : Prop := m0.length ≤ m.length ∧ ∀ n c, n < m0.length → m[n]? = some c → m0[n]? = some c ∨ c.under m0.length = true
noncomputable instance (m0 m : M) : Decidable (OkCut m0 m) := Classical.propDecidable _
theorem OkCut.refl {m : M} : OkCut m m := ⟨Nat.le_refl _, fun _ _ _ h => .inl h⟩
theorem OkCut.add {m0 m l : M} (h : OkCut m0 m) : OkCut m0 (m ++ l) := ⟨by rw [List.length_append]; exact Nat.le_trans h.1 (Nat.le_add_right _ _), fun n c hn hc => h.2 n c hn (by rwa [List.getElem?_append_left (Nat.lt_of_lt_of_le hn h.1)] at hc)⟩
theorem OkCut.set {m0 m : M} {k : Nat} {c : Cell} (h : OkCut m0 m) (hc : c.under m0.length = true) : OkCut m0 (m.set k c) := ⟨by rw [List.length_set]; exact h.1, fun n c' hn hc' => by
  by_cases hk : k = n
  · subst hk
    rw [List.getElem?_set_self (Nat.lt_of_lt_of_le hn h.1)] at hc'
    cases hc'
    exact .inr hc
  · rw [List.getElem?_set_ne hk] at hc'
    exact h.2 n c' hn hc'⟩
theorem OkCut.set_new {m0 m : M} {k : Nat} {c : Cell} (h : OkCut m0 m) (hk : m0.length ≤ k) : OkCut m0 (m.set k c) := ⟨by rw [List.length_set]; exact h.1, fun n c' hn hc' => by
  rw [List.getElem?_set_ne (by omega)] at hc'
  exact h.2 n c' hn hc'⟩
/-- a value handed out: the new cells are made trees, the store is as long as before -/
noncomputable def cutV' (m0 : M) (d : P) (m : M) : Res P := if OkCut m0 m then match fz m0.length m 6 d with
  | some d' => .ok d' (m.take m0.length)
  | none => .stuck
  else .stuck
noncomputable def cutX (m0 : M) (c : Str) (fs : List (Str × P)) (m : M) : Res P := if OkCut m0 m then match fzs (fz m0.length m 6) (fs.map (·.2)) with
  | some ys => .exc c ((fs.map (·.1)).zip ys) (m.take m0.length)
  | none => .stuck
  else .stuck
noncomputable def finish (cut : Bool) (m0 : M) : Out → Res P
  | .rt d m => if cut = true then cutV' m0 d m else .ok d m
  | .nx _ m => if cut = true then cutV' m0 .non m else .ok .non m
  | .exc c fs _ m => if cut = true then cutX m0 c fs m else .exc c fs m
  | _ => .stuck
def startP (n : Nat) (ds : List P) : Env := ds.map some ++ List.replicate (n - ds.length) none
noncomputable def fnF (cut : Bool) (n : Nat) (body : FS) : FN := fun ds m => finish cut m (body (startP n ds) m)
/-- a def's promise -/
def gd (k : Nat) (f : FN) : FN := fun ds m => if ds.length = k then f ds m else .stuck
def spF (K : PySem.W.Frag) (k : Nat) (f : FN) : Sp := fun vs H Q E => ∃ ds m F α, Wk K F α m H ∧ Rps K F α H ds vs ∧ Post K (VR K) (gd k f ds m) F α H Q E
theorem spF_len {K k f} : ∀ vs H Q E, spF K k f vs H Q E → vs.length = k := fun vs H Q E ⟨ds, m, F, α, W, R, p⟩ => by
  unfold gd at p
  split at p
  · rename_i h; rw [← R.length]; exact h
  · exact p.elim
section
variable {K : PySem.W.Frag} {F : Addr → Prop} {α : List Addr} {H : Hp} {m : M}
mutual
theorem under_rp {n : Nat} {F' : Addr → Prop} (hF : ∀ a, F a → F' a) : ∀ {d : P} {v : V}, Rp K F α H d v → d.under n = true → Rp K F' (α.take n) H d v
  | _, _, .non, _ => .non
  | _, _, .bl b, _ => .bl b
  | _, _, .int i, _ => .int i
  | _, _, .str x, _ => .str x
  | _, _, .ty n, _ => .ty n
  | _, _, .cls c, _ => .cls c
  | _, _, .tup h1 h2 h3, h => .tup (hF _ h1) h2 (under_rps hF h3 (by simpa only [P.under] using h))
  | _, _, .lst h1 h2 h3, h => .lst (hF _ h1) h2 (under_rps hF h3 (by simpa only [P.under] using h))
  | _, _, .xls h1 h3, h => .xls (h1.imp (fun q => ⟨hF _ q.1, q.2⟩) id) (under_rps hF h3 (by simpa only [P.under] using h))
  | _, _, .dK h1 h2 h3 h4, h => .dK (hF _ h1) h2 h3 (under_rps hF h4 (by simpa only [P.under, underK_eq] using h))
  | _, _, .dT h1 h2 h3 h4, h => .dT (hF _ h1) h2 h3 (under_rps hF h4 (by simpa only [P.under, underT_eq] using h))
  | _, _, .obj h1 h2 h3 h4, h => .obj (hF _ h1) h2 h3 (under_rps hF h4 (by simpa only [P.under, underF_eq] using h))
  | _, _, .cell e, h => .cell (by
      simp only [P.under, decide_eq_true_eq] at h
      rw [List.getElem?_take_of_lt h]; exact e)
theorem under_rps {n : Nat} {F' : Addr → Prop} (hF : ∀ a, F a → F' a) : ∀ {d : List P} {v : List V}, Rps K F α H d v → P.unders n d = true → Rps K F' (α.take n) H d v
  | _, _, .nil, _ => .nil
  | _, _, .cons r t, h => by
    simp only [P.unders, Bool.and_eq_true] at h
    exact .cons (under_rp hF r h.1) (under_rps hF t h.2)
end
mutual
theorem rp_under {n : Nat} (hn : α.length ≤ n) : ∀ {d : P} {v : V}, Rp K F α H d v → d.under n = true
  | _, _, .non => by simp only [P.under]
  | _, _, .bl b => by simp only [P.under]
  | _, _, .int i => by simp only [P.under]
  | _, _, .str x => by simp only [P.under]
  | _, _, .ty n => by simp only [P.under]
  | _, _, .cls c => by simp only [P.under]
  | _, _, .tup h1 h2 h3 => by simp only [P.under]; exact rps_under hn h3
  | _, _, .lst h1 h2 h3 => by simp only [P.under]; exact rps_under hn h3
  | _, _, .xls h1 h3 => by simp only [P.under]; exact rps_under hn h3
  | _, _, .dK h1 h2 h3 h4 => by simp only [P.under, underK_eq]; exact rps_under hn h4
  | _, _, .dT h1 h2 h3 h4 => by simp only [P.under, underT_eq]; exact rps_under hn h4
  | _, _, .obj h1 h2 h3 h4 => by simp only [P.under, underF_eq]; exact rps_under hn h4
  | _, _, .cell e => by
    simp only [P.under, decide_eq_true_eq]
    exact Nat.lt_of_lt_of_le (List.getElem?_eq_some_iff.mp e).1 hn
theorem rps_under {n : Nat} (hn : α.length ≤ n) : ∀ {d : List P} {v : List V}, Rps K F α H d v → P.unders n d = true
  | _, _, .nil => by simp only [P.unders]
  | _, _, .cons r t => by simp only [P.unders, rp_under hn r, rps_under hn t, Bool.and_self]
end
/-- the trees behind a cut -/
def FrC (F : Addr → Prop) (α : List Addr) (n : Nat) : Addr → Prop := fun a => F a ∨ ∃ k, n ≤ k ∧ α[k]? = some a
theorem fzs_rps {n : Nat} {f : P → Option P} {F' : Addr → Prop} {α' : List Addr} (hf : ∀ d v d', Rp K F α H d v → f d = some d' → Rp K F' α' H d' v) : ∀ {d : List P} {v : List V} {d' : List P}, Rps K F α H d v → fzs f d = some d' → Rps K F' α' H d' v
  | _, _, _, .nil, h => by simp only [fzs, Option.some.injEq] at h; subst h; exact .nil
  | _, _, _, .cons r t, h => by
    simp only [fzs] at h
    split at h
    · rename_i y ys h1 h2
      cases h
      exact .cons (hf _ _ _ r h1) (fzs_rps (n := n) hf t h2)
    · cases h
theorem fzs_len {f : P → Option P} : ∀ {d d' : List P}, fzs f d = some d' → d'.length = d.length
  | [], d', h => by simp only [fzs, Option.some.injEq] at h; subst h; rfl
  | x :: xs, d', h => by
    simp only [fzs] at h
    split at h
    · rename_i y ys h1 h2
      cases h
      rw [List.length_cons, List.length_cons, fzs_len h2]
    · cases h
theorem zip_fst {κ β : Type} : ∀ {a : List κ} {b : List β}, b.length = a.length → (a.zip b).map (·.1) = a
  | [], [], _ => rfl
  | x :: a, y :: b, h => by rw [List.zip_cons_cons, List.map_cons, zip_fst (by simpa using h)]
theorem zip_snd {κ β : Type} : ∀ {a : List κ} {b : List β}, b.length = a.length → (a.zip b).map (·.2) = b
  | [], [], _ => rfl
  | x :: a, y :: b, h => by rw [List.zip_cons_cons, List.map_cons, zip_snd (by simpa using h)]
theorem fz_rp (W : Wk K F α m H) {n : Nat} : ∀ (k : Nat) (d : P) (v : V) (d' : P), Rp K F α H d v → fz n m k d = some d' → Rp K (FrC F α n) (α.take n) H d' v := by
  intro k
  induction k with
  | zero =>
    intro d v d' r h
    simp only [fz] at h
    split at h
    · rename_i hb; cases h; exact under_rp (fun _ q => .inl q) r hb
    · cases h
  | succ k ih =>
    intro d v d' r h
    simp only [fz] at h
    split at h
    · rename_i hb; cases h; exact under_rp (fun _ q => .inl q) r hb
    · rename_i hnb
      split at h
      · obtain ⟨ys, h1, rfl⟩ := Option.map_eq_some_iff.mp h
        obtain ⟨a, vs, rfl, f, e1, r1⟩ := tv_ok r
        exact .tup (.inl f) e1 (fzs_rps (n := n) ih r1 h1)
      · obtain ⟨ys, h1, rfl⟩ := Option.map_eq_some_iff.mp h
        cases r
        rename_i f e1 r1
        exact .lst (.inl f) e1 (fzs_rps (n := n) ih r1 h1)
      · rename_i j
        cases r
        rename_i a ha
        have hj : n ≤ j := by simp only [P.under, decide_eq_true_eq] at hnb; omega
        have fa : FrC F α n a := .inr ⟨j, hj, ha⟩
        split at h
        · rename_i xs hn
          obtain ⟨ys, h1, rfl⟩ := Option.map_eq_some_iff.mp h
          obtain ⟨o, ho, hc⟩ := W.at_ j _ a hn ha
          cases o <;> first | exact hc.elim | skip
          exact .lst fa ho (fzs_rps (n := n) ih hc h1)
        · rename_i xs hn
          obtain ⟨ys, h1, rfl⟩ := Option.map_eq_some_iff.mp h
          obtain ⟨o, ho, hc⟩ := W.at_ j _ a hn ha
          cases o <;> first | exact hc.elim | skip
          have hl := fzs_len h1
          rw [List.length_map] at hl
          exact .dK fa ho (by rw [zip_fst (by rw [List.length_map]; exact hl)]; exact hc.1) (by rw [zip_snd (by rw [List.length_map]; exact hl)]; exact fzs_rps (n := n) ih hc.2 h1)
        · rename_i xs hn
          obtain ⟨ys, h1, rfl⟩ := Option.map_eq_some_iff.mp h
          obtain ⟨o, ho, hc⟩ := W.at_ j _ a hn ha
          cases o <;> first | exact hc.elim | skip
          have hl := fzs_len h1
          rw [List.length_map] at hl
          exact .dT fa ho (by rw [zip_fst (by rw [List.length_map]; exact hl)]; exact hc.1) (by rw [zip_snd (by rw [List.length_map]; exact hl)]; exact fzs_rps (n := n) ih hc.2 h1)
        · rename_i C fs hn
          obtain ⟨ys, h1, rfl⟩ := Option.map_eq_some_iff.mp h
          obtain ⟨o, ho, hc⟩ := W.at_ j _ a hn ha
          cases o <;> first | exact hc.elim | skip
          obtain ⟨rfl, hc1, hc2⟩ := hc
          have hl := fzs_len h1
          rw [List.length_map] at hl
          exact .obj fa ho (by rw [zip_fst (by rw [List.length_map]; exact hl)]; exact hc1) (by rw [zip_snd (by rw [List.length_map]; exact hl)]; exact fzs_rps (n := n) ih hc2 h1)
        · cases h
      · cases h
/-- the world behind a cut -/
theorem cut_world {F' : Addr → Prop} {α' : List Addr} {H' : Hp} {m' : M} (W0 : Wk K F α m H) (e : Ex F α H F' α' H') (W : Wk K F' α' m' H') (h : OkCut m m') :
    Ex F α H (FrC F' α' m.length) (α'.take m.length) H' ∧ Wk K (FrC F' α' m.length) (α'.take m.length) (m'.take m.length) H' := by
  have hα : α'.take m.length = α := by
    obtain ⟨l, rfl⟩ := e.al
    rw [← W0.len, List.take_left]
  have late : ∀ a k, m.length ≤ k → α'[k]? = some a → a ∉ α := fun a k hk ha hm => by
    obtain ⟨j, hj⟩ := List.getElem?_of_mem hm
    have hj' := al_get hj e
    obtain ⟨h1, e1⟩ := List.getElem?_eq_some_iff.mp ha
    obtain ⟨h2, e2⟩ := List.getElem?_eq_some_iff.mp hj'
    have : k = j := (List.getElem_inj W.nd).mp (e1.trans e2.symm)
    have hl := (List.getElem?_eq_some_iff.mp hj).1
    rw [W0.len] at hl
    omega
  refine ⟨⟨fun a q => .inl (e.f a q), ⟨[], by rw [hα, List.append_nil]⟩, e.k, fun a ha n => absurd (hα ▸ ha) n, fun a o hf ho n => ?_⟩, ⟨?_, ?_, fun a ha hf => ?_, fun a hf => ?_, fun n c a hn ha => ?_⟩⟩
  · rcases hf with q | ⟨k, hk, ha⟩
    · exact e.fn a o q ho n
    · have := e.new a (List.mem_of_getElem? ha) n
      rw [ho] at this; cases this
  · rw [List.length_take, List.length_take, W.len]
  · exact W.nd.sublist (List.take_sublist _ _)
  · rcases hf with q | ⟨k, hk, hk2⟩
    · exact W.nf a (List.mem_of_mem_take ha) q
    · exact late a k hk hk2 (hα ▸ ha)
  · rcases hf with q | ⟨k, hk, ha⟩
    · exact W.fr a q
    · obtain ⟨_, _, o, _, _, ho, _⟩ := W.has (List.mem_of_getElem? ha)
      exact ⟨o, ho⟩
  · have hl : n < m.length := by
      have := (List.getElem?_eq_some_iff.mp hn).1
      rw [List.length_take] at this
      omega
    rw [List.getElem?_take_of_lt hl] at hn ha
    obtain ⟨o, ho, hc⟩ := W.at_ n c a hn ha
    refine ⟨o, ho, ?_⟩
    have sb : Sub F α H (FrC F' α' m.length) (α'.take m.length) H' := ⟨fun a q => .inl (e.f a q), fun k b hb => by rw [hα]; exact hb, (e.sub W0.nf).k⟩
    rcases h.2 n c hl hn with q | q
    · -- the cell is an elder one: what it names stands under
      have key : c.under m.length = true → CellR K (FrC F' α' m.length) (α'.take m.length) H' c o := fun hb => by
        cases c <;> cases o <;> first | exact hc.elim | skip
        · exact under_rps (fun _ q => .inl q) hc hb
        · exact ⟨hc.1, under_rps (fun _ q => .inl q) hc.2 hb⟩
        · exact ⟨hc.1, under_rps (fun _ q => .inl q) hc.2 hb⟩
        · exact ⟨hc.1, hc.2.1, under_rps (fun _ q => .inl q) hc.2.2 hb⟩
      refine key ?_
      have ha0 : α[n]? = some a := by
        have := ha
        obtain ⟨l, rfl⟩ := e.al
        rwa [List.getElem?_append_left (by rw [W0.len]; exact hl)] at this
      obtain ⟨o0, ho0, hc0⟩ := W0.at_ n c a q ha0
      have bl : ∀ {d : P} {v : V}, Rp K F α H d v → d.under m.length = true := fun r => rp_under (by rw [← W0.len]; exact Nat.le_refl _) r
      have bls : ∀ {d : List P} {v : List V}, Rps K F α H d v → P.unders m.length d = true := fun r => rps_under (by rw [← W0.len]; exact Nat.le_refl _) r
      cases c <;> cases o0 <;> first | exact hc0.elim | skip
      · exact bls hc0
      · exact bls hc0.2
      · exact bls hc0.2
      · exact bls hc0.2.2
    · cases c <;> cases o <;> first | exact hc.elim | skip
      · exact under_rps (fun _ q => .inl q) hc q
      · exact ⟨hc.1, under_rps (fun _ q => .inl q) hc.2 q⟩
      · exact ⟨hc.1, under_rps (fun _ q => .inl q) hc.2 q⟩
      · exact ⟨hc.1, hc.2.1, under_rps (fun _ q => .inl q) hc.2.2 q⟩
end
end
/-! N7 -/
section
open PySem PySem.Spec PyProof.Rows
section
variable {K : PySem.W.Frag} {F : Addr → Prop} {α : List Addr} {H : Hp} {m : M} {Q : VK} {E : XK}
theorem EnvR.start {N : List Str} {ds : List P} {vs : List V} (r : Rps K F α H ds vs) : EnvR K F α H (startP N.length ds) (L2.start N vs) := by
  have hl := r.length
  refine ⟨?_, fun i d hd => ?_⟩
  · unfold startP L2.start
    rw [List.length_append, List.length_append, List.length_map, List.length_map, List.length_replicate, List.length_replicate, hl]
  · unfold startP at hd
    unfold L2.start
    by_cases hi : i < ds.length
    · rw [List.getElem?_append_left (by rw [List.length_map]; exact hi), List.getElem?_map] at hd
      obtain ⟨d', h1, h2⟩ := Option.map_eq_some_iff.mp hd
      cases h2
      obtain ⟨v, h3, h4⟩ := r.get h1
      exact ⟨v, by rw [List.getElem?_append_left (by rw [List.length_map, ← hl]; exact hi), List.getElem?_map, h3]; rfl, h4⟩
    · rw [List.getElem?_append_right (by rw [List.length_map]; omega), List.getElem?_replicate] at hd
      split at hd <;> cases hd
theorem finish_of {cut : Bool} {o : Out} (W : Wk K F α m H) (p : Post K (VR K) (finish cut m o) F α H Q E) : PostS K o F α H { nx := fun _ H' => Q .non H', rt := Q } (fun _ => E) := by
  have ret : ∀ d m1, Post K (VR K) (if cut = true then cutV' m d m1 else .ok d m1) F α H Q E → ∀ v F' α' H', Ex F α H F' α' H' → Wk K F' α' m1 H' → Rp K F' α' H' d v → Q v H' := fun d m1 p v F' α' H' e W' r => by
    split at p
    · unfold cutV' at p
      obtain ⟨hc, p⟩ := iteG p
      split at p
      · rename_i d' hf
        obtain ⟨e2, W2⟩ := cut_world W e W' hc
        exact p v _ _ _ e2 W2 (fz_rp W' _ _ _ _ r hf)
      · exact p.elim
    · exact p v F' α' H' e W' r
  cases o with
  | nx ρ m1 => exact fun σ F' α' H' e W' R => ret .non m1 p .non F' α' H' e W' .non
  | rt d m1 => exact ret d m1 p
  | bk => exact p.elim
  | ct => exact p.elim
  | stuck => exact p.elim
  | exc c fs ρ m1 =>
    intro σ F' α' H' dd e W' R x
    simp only [finish] at p
    split at p
    · unfold cutX at p
      obtain ⟨hc, p⟩ := iteG p
      split at p
      · rename_i ys hf
        obtain ⟨e2, W2⟩ := cut_world W e W' hc
        refine p _ _ _ dd e2 W2 ?_
        have hl := fzs_len hf
        rw [List.length_map] at hl
        cases dd with
        | none =>
          have hx : fs = [] := x
          subst hx
          show List.zip _ _ = []
          rfl
        | some d =>
          obtain ⟨h0, h1, ws, h2, h3, h4⟩ := x
          refine ⟨fun q => h0 ?_, ?_⟩
          · have q' := congrArg (List.map (·.1)) q
            rw [zip_fst (by rw [List.length_map]; exact hl)] at q'
            exact List.map_eq_nil_iff.mp q'
          exact ⟨.inl h1, ws, h2, by rw [zip_fst (by rw [List.length_map]; exact hl)]; exact h3, by rw [zip_snd (by rw [List.length_map]; exact hl)]; exact fzs_rps (n := m.length) (fun d v d' => fz_rp W' _ d v d') h4 hf⟩
      · exact p.elim
    · exact p F' α' H' dd e W' x
/-- a body that runs as f says keeps the promise -/
theorem body_of {cut : Bool} {N : List Str} {k : Nat} {fb : FS} {vs : List V} (h : spF K k (fnF cut N.length fb) vs H Q E) : tS K (fun _ => E) fb { nx := fun _ H' => Q .non H', rt := Q } (L2.start N vs) H := by
  obtain ⟨ds, m, F, α, W, R, p⟩ := h
  unfold gd at p
  obtain ⟨hl, p⟩ := iteG p
  exact ⟨startP N.length ds, m, F, α, W, .start R, finish_of W p⟩
/-- .. of a def that raises nothing -/
noncomputable def fnC (cut : Bool) (n : Nat) (body : FS) : FN := fun ds m => (fnF cut n body ds m).calm
theorem body_ofC {cut : Bool} {N : List Str} {k : Nat} {fb : FS} {vs : List V} (h : spF K k (fnC cut N.length fb) vs H Q E) : tS K (fun _ => E0) fb { nx := fun _ H' => Q .non H', rt := Q } (L2.start N vs) H := by
  obtain ⟨ds, m, F, α, W, R, p⟩ := h
  unfold gd at p
  obtain ⟨hl, p⟩ := iteG p
  refine body_of (k := k) (cut := cut) ⟨ds, m, F, α, W, R, ?_⟩
  unfold gd
  rw [if_pos hl]
  unfold fnC at p
  cases hr : fnF cut N.length fb ds m with
  | ok d m1 => rw [hr] at p; exact p
  | exc c fs m1 => rw [hr] at p; exact p.elim
  | stuck => rw [hr] at p; exact p.elim
end
section
variable {P : Program} {w : World} {K : PySem.W.Frag} {mg : Str → Option Value} {base : Heap} {x qual : Str} {params : Arguments} {body : List Stmt} {scope : Scope} {dvs : List V} {kws : List (Str × V)} {at_ : Str × Option Str} {fd : FuncData} {N ps : List Str} {k n : Nat} {fb : FS} {cut : Bool} {f : FN}
theorem conF (F : FunD K x qual params body scope dvs kws (He.fAd K at_) fd) (S : FnScope N ps scope) (hb : Binds K fd ps []) (hf : f = fnF cut N.length fb) (hn : n = ps.length)
    (hbody : ∀ (cdv : Value) (A : Around) (outer : List PySem.Env) (s : Shared) (H : Hp) (E : XK), Room k (A.deeper (envOfC qual scope s.heap.objs.size (He.fAd K at_) cdv)) → PSs (cxOf (L2.CX P w) P w K mg base N qual scope (He.fAd K at_) cdv A outer s H E) body (tS K (fun _ => E) fb)) :
    Con P w K mg base (L2.CX P w) (k + 1) at_ ps (spF K n f) := by
  subst hf hn
  exact ⟨⟨fd, F.ok S spF_len fun cdv A outer s H vs Q E hr h => ⟨_, hbody cdv A outer s H E hr, body_of h⟩, hb⟩, F.kp⟩
theorem conC (F : FunD K x qual params body scope dvs kws (He.fAd K at_) fd) (S : FnScope N ps scope) (hb : Binds K fd ps []) (hf : f = fnC cut N.length fb) (hn : n = ps.length)
    (hbody : ∀ (cdv : Value) (A : Around) (outer : List PySem.Env) (s : Shared) (H : Hp) (E : XK), Room k (A.deeper (envOfC qual scope s.heap.objs.size (He.fAd K at_) cdv)) → PSs (cxOf CX0 P w K mg base N qual scope (He.fAd K at_) cdv A outer s H E).nox body (tS K (fun _ => E0) fb)) :
    Con P w K mg base CX0 (k + 1) at_ ps (spF K n f) := by
  subst hf hn
  exact ⟨⟨fd, F.ok S spF_len fun cdv A outer s H vs Q E hr h => ⟨_, PSs.nox (hbody cdv A outer s H E hr), body_ofC h⟩, hb⟩, F.kp⟩
/-- before the first turn of a recursion -/
theorem con0 (F : FunD K x qual params body scope dvs kws (He.fAd K at_) fd) {CX : CXT} (hb : Binds K fd ps []) (hf : ∀ ds m, f ds m = .stuck) (hn : n = ps.length) : Con P w K mg base CX 0 at_ ps (spF K n f) := by
  have no : ∀ vs H Q E, spF K n f vs H Q E → False := fun vs H Q E ⟨ds, m, F, α, W, R, p⟩ => by
    unfold gd at p
    split at p
    · rw [hf] at p; exact p
    · exact p
  exact ⟨⟨fd, ⟨fun vs H Q E h => (no vs H Q E h).elim, fun _ _ _ _ _ _ vs Q E _ _ _ _ h => (no _ _ _ _ h).elim⟩, hb⟩, F.kp⟩
end
section
variable {X : Cx} {CX : CXT} {k n : Nat} {ps : List Str} {E : St → XK} {x m C : Str} {p pos apos : Pos} {e o : Expr} {es : List Expr} {fo : FE} {fr : FA} {f : FN}
theorem pp_fcall (G : Con X.prog X.w X.K X.mg X.base CX k (x, none) ps (spF X.K n f)) (hr : Room k X.A) (hg : Gl X x) (hm : X.mg x = some (.ref (He.ga X.K x))) (hx : ∀ σ, PassesAt CX X σ (E σ))
    (ha : PA X (e :: es) (tA X.K E fr)) (hdb : (x == ("__debug__" : Str)) = false := by decide) (he : starEach (e :: es) X.env = (false, eval e X.env) :: starEach es X.env := by rfl) (hpl : (backTo pos (starEach es X.env)).any (·.1) = false := by rfl) :
    PE X (.Call (.Name x p) (e :: es) [] pos) (tP X.K E (fCall (gd n f) fr)) :=
  pe_imp (pe_fz (E := E) G hr hg hm hx ha hdb he hpl) fun σ H Q ⟨ρ, m, F, α, W, R, p⟩ => tA_bind W R p fun ds m1 F1 α1 H1 vs e1 W1 R1 rs p1 => ⟨ds, m1, F1, α1, W1, rs, p1⟩
theorem pp_fcall0 (G : Con X.prog X.w X.K X.mg X.base CX k (x, none) ps (spF X.K n f)) (hr : Room k X.A) (hg : Gl X x) (hm : X.mg x = some (.ref (He.ga X.K x))) (hx : ∀ σ, PassesAt CX X σ (E σ))
    (hdb : (x == ("__debug__" : Str)) = false := by decide) : PE X (.Call (.Name x p) [] [] pos) (tP X.K E (fCall (gd n f) fNil)) :=
  pe_imp (pe_fz0 (E := E) G hr hg hm hx hdb) fun σ H Q ⟨ρ, m, F, α, W, R, p⟩ => ⟨[], m, F, α, W, .nil, p⟩
end
/-- the law: a list of ints comes in, True goes out -/
def spLawP (K : PySem.W.Frag) : Sp := fun vs H Q _ => ∃ (a : Addr) (ns : List Int), vs = [.ref a] ∧ SqL K H a (ns.map V.int) ∧ ns.length ≤ 63 ∧ ∀ H', Q (.bl true) H'
theorem law_spF {K : PySem.W.Frag} {f : FN} (hl : ∀ ns : List Int, ns.length ≤ 63 → ∃ m', f [.xls (ns.map .int)] [] = .ok (.bl true) m') {vs H Q E} (h : spLawP K vs H Q E) : spF K 1 f vs H Q E := by
  obtain ⟨a, ns, rfl, hs, hn, q⟩ := h
  obtain ⟨m', e⟩ := hl ns hn
  refine ⟨[.xls (ns.map .int)], [], fun b => ∃ o, H b = some o, [], ⟨rfl, List.nodup_nil, fun _ h => (List.not_mem_nil h).elim, fun _ h => h, fun n c a h => by simp at h⟩, .cons (.xls ?_ (.ints ns)) .nil, ?_⟩
  · rcases hs with hs | hs
    · exact .inl ⟨Rd.some hs, hs⟩
    · exact .inr fun H1 => .inr hs
  · unfold gd
    rw [if_pos (show [P.xls (ns.map P.int)].length = 1 from rfl), e]
    intro v F' α' H' _ _ r
    cases r
    exact q H'
end
/-! N8 -/
section
open PySem PySem.Spec PyProof.Rows
/-! ### order -/
def rCm (K : PySem.W.Frag) (o : Cm) : R2 := fun x y H Q => ∃ d e b, Dp K H x d ∧ Dp K H y e ∧ d.canLay0 = true ∧ e.canLay0 = true ∧ d.depth ≤ 64 ∧ cmpO o 8 d e = some b ∧ Q (.bl b) H
theorem op_cm {X : Cx} (o : Cm) (hu : X.A.units + 200 < cLine) : OpR X (compareOp o.op) (rCm X.K o) := by
  intro pins s σ H x y v u Q I rx ry h
  obtain ⟨d, e, b, hd, he, l1, l2, hz, hc, q⟩ := h
  obtain ⟨as, r1⟩ := Dp.reads I d x v hd rx
  obtain ⟨bs, r2⟩ := Dp.reads I e y u he ry
  have hh := rc_cmpO o 8 d e X.A s v u as bs b r1 r2 l1 l2 hz (by omega) hc
  cases o <;> exact hh X.prog X.w X.xe _ ⟨.bl _, H, I, rfl, q⟩
def cmD (o : Cm) (a b : PyData) : Option Bool := if (a.canLay0 && b.canLay0 && decide (a.depth ≤ 64)) = true then cmpO o 8 a b else none
def oCm (o : Cm) (d e : P) (m : M) : Res P := match d, e with
  | .int a, .int b => .ok (.bl (o.int a b)) m
  | d, e => match (sh m d).data, (sh m e).data with
    | some a, some b => match cmD o a b with
      | some r => .ok (.bl r) m
      | none => .stuck
    | _, _ => .stuck
theorem p_cm {K : PySem.W.Frag} (o : Cm) : OpP K (rCm K o) (oCm o) := by
  intro F α m H d e x y Q E W rx ry p
  unfold oCm at p
  split at p
  · rename_i a b
    cases rx; cases ry
    exact ⟨.int a, .int b, _, .int a, .int b, by simp [PyData.canLay0], by simp [PyData.canLay0], by simp [PyData.depth], by unfold cmpO; rfl, p.here W (.bl _)⟩
  · split at p
    · rename_i a b h1 h2
      split at p
      · rename_i r hr
        unfold cmD at hr
        split at hr
        · rename_i hc
          simp only [Bool.and_eq_true, decide_eq_true_eq] at hc
          exact ⟨a, b, r, sh_dp W rx h1, sh_dp W ry h2, hc.1.1, hc.1.2, hc.2, hr, p.here W (.bl _)⟩
        · cases hr
      · exact p.elim
    · exact p.elim
/-! ### min, max of two -/
def intsP : List P → Option (List Int)
  | [] => some []
  | .int i :: r => (intsP r).map (i :: ·)
  | _ :: _ => none
theorem intsP_rps {K F α H} : ∀ {xs : List P} {vs : List V} {ns : List Int}, Rps K F α H xs vs → intsP xs = some ns → vs = ns.map V.int
  | [], _, ns, r, h => by cases r; simp only [intsP, Option.some.injEq] at h; subst h; rfl
  | x :: xs, _, ns, r, h => by
    cases r with
    | cons r1 rr =>
      cases x <;> simp only [intsP] at h <;> try cases h
      obtain ⟨ms, h1, rfl⟩ := Option.map_eq_some_iff.mp h
      cases r1
      rw [intsP_rps rr h1]
      rfl
def oMax2 (ds : List P) (m : M) : Res P := match ds with
  | [.int a, .int b] => .ok (.int (if b > a then b else a)) m
  | [.tup xs, .tup ys] => match intsP xs, intsP ys with
    | some ns, some ms => .ok (if lexI ns ms = true then .tup ys else .tup xs) m
    | _, _ => .stuck
  | _ => .stuck
def oMin2 (ds : List P) (m : M) : Res P := match ds with
  | [.int a, .int b] => .ok (.int (if b < a then b else a)) m
  | [.tup xs, .tup ys] => match intsP xs, intsP ys with
    | some ns, some ms => .ok (if lexI ms ns = true then .tup ys else .tup xs) m
    | _, _ => .stuck
  | _ => .stuck
def rMaxZ (K : PySem.W.Frag) : List V → Hp → VK → Prop := fun xs H Q => rMax2 xs H Q ∨ rMaxT K xs H Q
def rMinZ (K : PySem.W.Frag) : List V → Hp → VK → Prop := fun xs H Q => rMin2 xs H Q ∨ rMinT K xs H Q
theorem c_max {X : Cx} (hc : X.calm = true) (hu : X.A.units + 64 < cLine) : CallR X (.builtin "max") (rMaxZ X.K) := CallR.alt (cMax2 hc) (cMaxT hc hu)
theorem c_min {X : Cx} (hc : X.calm = true) (hu : X.A.units + 64 < cLine) : CallR X (.builtin "min") (rMinZ X.K) := CallR.alt (cMin2 hc) (cMinT hc hu)
theorem p_max {K : PySem.W.Frag} : CallP K (rMaxZ K) oMax2 := by
  intro F α m H d x Q E W rx p
  unfold oMax2 at p
  split at p
  · obtain ⟨v, w, rfl, r1, r2⟩ := rx.two
    cases r1; cases r2
    exact .inl ⟨_, _, rfl, p.here W (.int _)⟩
  · split at p
    · rename_i xs ys ns ms h1 h2
      obtain ⟨v, w, rfl, r1, r2⟩ := rx.two
      obtain ⟨a, vs, rfl, f1, e1, q1⟩ := tv_ok r1
      obtain ⟨b, ws, rfl, f2, e2, q2⟩ := tv_ok r2
      have z1 := intsP_rps q1 h1
      have z2 := intsP_rps q2 h2
      subst z1 z2
      refine .inr ⟨a, b, ns, ms, rfl, Evl.st_of e1, Evl.st_of e2, ?_⟩
      split at p
      · rename_i hl; rw [if_pos hl]; exact p.here W r2
      · rename_i hl; rw [if_neg hl]; exact p.here W r1
    · exact p.elim
  · exact p.elim
theorem p_min {K : PySem.W.Frag} : CallP K (rMinZ K) oMin2 := by
  intro F α m H d x Q E W rx p
  unfold oMin2 at p
  split at p
  · obtain ⟨v, w, rfl, r1, r2⟩ := rx.two
    cases r1; cases r2
    exact .inl ⟨_, _, rfl, p.here W (.int _)⟩
  · split at p
    · rename_i xs ys ns ms h1 h2
      obtain ⟨v, w, rfl, r1, r2⟩ := rx.two
      obtain ⟨a, vs, rfl, f1, e1, q1⟩ := tv_ok r1
      obtain ⟨b, ws, rfl, f2, e2, q2⟩ := tv_ok r2
      have z1 := intsP_rps q1 h1
      have z2 := intsP_rps q2 h2
      subst z1 z2
      refine .inr ⟨a, b, ns, ms, rfl, Evl.st_of e1, Evl.st_of e2, ?_⟩
      split at p
      · rename_i hl; rw [if_pos hl]; exact p.here W r2
      · rename_i hl; rw [if_neg hl]; exact p.here W r1
    · exact p.elim
  · exact p.elim
/-! ### in -/
def flatP : P → Bool
  | .non => true
  | .bl _ => true
  | .int _ => true
  | .str _ => true
  | _ => false
def eqFP : P → P → Bool
  | .non, .non => true
  | .bl a, .bl b => a == b
  | .bl a, .int b => (if a then 1 else 0) == b
  | .int a, .bl b => a == (if b then 1 else 0)
  | .int a, .int b => a == b
  | .str a, .str b => a == b
  | _, _ => false
def sv (m : M) : P → Option (List P)
  | .tup xs => some xs
  | d => lv m d
def oIn (d e : P) (m : M) : Res P := match sv m e with
  | some xs => if (flatP d && xs.all flatP) = true then .ok (.bl (xs.any fun y => eqFP y d)) m else .stuck
  | none => .stuck
def oNotIn (d e : P) (m : M) : Res P := match sv m e with
  | some xs => if (flatP d && xs.all flatP) = true then .ok (.bl (!xs.any fun y => eqFP y d)) m else .stuck
  | none => .stuck
section
variable {K : PySem.W.Frag} {F : Addr → Prop} {α : List Addr} {H : Hp} {m : M}
theorem flat_rp {d : P} {v : V} (r : Rp K F α H d v) : flatV v = true ∨ flatP d = false := by cases r <;> simp [flatP, flatV]
theorem flat_of {d : P} {v : V} (r : Rp K F α H d v) (h : flatP d = true) : flatV v = true := (flat_rp r).elim id fun q => by rw [h] at q; cases q
theorem flats_of : ∀ {d : List P} {v : List V}, Rps K F α H d v → d.all flatP = true → v.all flatV = true
  | _, _, .nil, _ => rfl
  | _, _, .cons r t, h => by
    simp only [List.all_cons, Bool.and_eq_true] at h ⊢
    exact ⟨flat_of r h.1, flats_of t h.2⟩
theorem eqF_of {d e : P} {v w : V} (r : Rp K F α H d v) (s : Rp K F α H e w) (h : flatP d = true) (h2 : flatP e = true) : eqV v w = eqFP d e := by
  cases r <;> cases s <;> simp_all [flatP, eqV, eqFP]
theorem any_of {e : P} {w : V} (s : Rp K F α H e w) (h2 : flatP e = true) : ∀ {d : List P} {v : List V}, Rps K F α H d v → d.all flatP = true → v.any (fun y => eqV y w) = d.any fun y => eqFP y e
  | _, _, .nil, _ => rfl
  | _, _, .cons r t, h => by
    simp only [List.all_cons, Bool.and_eq_true] at h
    simp only [List.any_cons, eqF_of r s h.1 h2, any_of s h2 t h.2]
theorem sv_ok {d : P} {v : V} {xs : List P} (W : Wk K F α m H) (r : Rp K F α H d v) (h : sv m d = some xs) : ∃ a vs, v = .ref a ∧ (SqL K H a vs ∨ SqT K H a vs) ∧ Rps K F α H xs vs := by
  unfold sv at h
  split at h
  · cases h
    obtain ⟨a, vs, rfl, f, e1, r1⟩ := tv_ok r
    exact ⟨a, vs, rfl, .inr (Evl.st_of e1), r1⟩
  · obtain ⟨a, vs, rfl, e1, r1⟩ := lv_ok W r h
    exact ⟨a, vs, rfl, .inl e1, r1⟩
theorem p_in : OpP K (rIn K false) oIn := by
  intro F α m H d e x y Q E W rx ry p
  unfold oIn at p
  split at p
  · rename_i xs hx
    obtain ⟨hf, p⟩ := iteG p
    rw [Bool.and_eq_true] at hf
    obtain ⟨a, vs, rfl, e1, r1⟩ := sv_ok W ry hx
    refine ⟨a, vs, rfl, e1, flat_of rx hf.1, flats_of r1 hf.2, ?_⟩
    rw [if_neg Bool.false_ne_true]
    unfold inV
    rw [any_of rx hf.1 r1 hf.2]
    exact p.here W (.bl _)
  · exact p.elim
theorem p_notin : OpP K (rIn K true) oNotIn := by
  intro F α m H d e x y Q E W rx ry p
  unfold oNotIn at p
  split at p
  · rename_i xs hx
    obtain ⟨hf, p⟩ := iteG p
    rw [Bool.and_eq_true] at hf
    obtain ⟨a, vs, rfl, e1, r1⟩ := sv_ok W ry hx
    refine ⟨a, vs, rfl, e1, flat_of rx hf.1, flats_of r1 hf.2, ?_⟩
    rw [if_pos rfl]
    unfold inV
    rw [any_of rx hf.1 r1 hf.2]
    exact p.here W (.bl _)
  · exact p.elim
end
/-! ### methods -/
def fMt (ty : M → P → Bool) (o : P → List P → M → Res P) (fo : FE) (fa : FA) : FE := fun ρ m => (fo ρ m).bind fun d m1 => if ty m1 d = true then (fa ρ m1).bind fun ds m2 => o d ds m2 else .stuck
def MtP (K : PySem.W.Frag) (r : V → List V → Hp → VK → Prop) (o : P → List P → M → Res P) : Prop := ∀ {F α m H d ds x xs Q E}, Wk K F α m H → Rp K F α H d x → Rps K F α H ds xs → Post K (VR K) (o d ds m) F α H Q E → r x xs H Q
def isL (m : M) (d : P) : Bool := (lv m d).isSome
def isS (_ : M) : P → Bool
  | .str _ => true
  | _ => false
def TyP (K : PySem.W.Frag) (T : String) (ty : M → P → Bool) : Prop := ∀ {F α m H d x}, Wk K F α m H → Rp K F α H d x → ty m d = true → tyV K T x H
theorem ty_list {K : PySem.W.Frag} : TyP K "list" isL := fun W r h => by
  obtain ⟨xs, hx⟩ := Option.isSome_iff_exists.mp h
  obtain ⟨a, vs, rfl, e1, r1⟩ := lv_ok W r hx
  exact .inl ⟨rfl, vs, e1⟩
theorem ty_str {K : PySem.W.Frag} : TyP K "str" isS := fun W r h => by cases r <;> first | rfl | cases h
def oAppend (d : P) (ds : List P) (m : M) : Res P := match d, ds with
  | .cell n, [y] => match m[n]? with
    | some (.lst xs) => if decide (xs.length < 100000) = true then .ok .non (m.set n (.lst (xs ++ [y]))) else .stuck
    | _ => .stuck
  | _, _ => .stuck
def oExtend (d : P) (ds : List P) (m : M) : Res P := match d, ds with
  | .cell n, [e] => match m[n]?, lw m e with
    | some (.lst xs), some ys => if fits (xs.length + ys.length) = true then .ok .non (m.set n (.lst (xs ++ ys))) else .stuck
    | _, _ => .stuck
  | _, _ => .stuck
def oPop (d : P) (ds : List P) (m : M) : Res P := match d, ds with
  | .cell n, [] => match m[n]? with
    | some (.lst xs) => match xs[xs.length - 1]? with
      | some y => .ok y (m.set n (.lst xs.dropLast))
      | none => .stuck
    | _ => .stuck
  | .cell n, [.int i] => match m[n]? with
    | some (.lst xs) => if decide (-(2 ^ 63) ≤ i ∧ i < 2 ^ 63) = true then match seqIndex? i xs.length with
      | some k => match xs[k]? with
        | some y => .ok y (m.set n (.lst (xs.eraseIdx k)))
        | none => .stuck
      | none => .stuck
      else .stuck
    | _ => .stuck
  | _, _ => .stuck
def oLIndex (d : P) (ds : List P) (m : M) : Res P := match ds with
  | [y] => match lv m d with
    | some xs => if (flatP y && xs.all flatP) = true then match xs.findIdx? fun z => eqFP z y with
      | some j => .ok (.int (j : Nat)) m
      | none => .stuck
      else .stuck
    | none => .stuck
  | _ => .stuck
def oSIndex (d : P) (ds : List P) (m : M) : Res P := match d, ds with
  | .str a, [.str b] => match Builtin.Str.occurrences a b 0 a.length 1 with
    | i :: _ => .ok (.int (i : Nat)) m
    | [] => .stuck
  | _, _ => .stuck
section
variable {K : PySem.W.Frag}
theorem p_append : MtP K rAppend oAppend := by
  intro F α m H d ds x xs Q E W rx rs p
  unfold oAppend at p
  split at p
  · rename_i n y
    split at p
    · rename_i ys hn
      obtain ⟨hl, p⟩ := iteG p
      cases rx
      rename_i a ha
      obtain ⟨v, rfl, r1⟩ := rs.only
      obtain ⟨o, ho, hc⟩ := W.at_ n _ a hn ha
      cases o <;> first | exact hc.elim | skip
      rename_i vs
      have hr : Rps K F α H ys vs := hc
      obtain ⟨e, W'⟩ := W.put ha (c := .lst (ys ++ [y])) (o := .lst (vs ++ [v])) (hr.append (.one r1))
      exact ⟨a, vs, v, rfl, rfl, ho, by rw [← hr.length]; exact Nat.lt_of_lt_of_le (of_decide_eq_true hl) (by decide), p _ _ _ _ e W' .non⟩
    · exact p.elim
  · exact p.elim
theorem p_extend : MtP K rExtend oExtend := by
  intro F α m H d ds x xs Q E W rx rs p
  unfold oExtend at p
  split at p
  · rename_i n y
    split at p
    · rename_i xs' ys hn hy
      obtain ⟨hl, p⟩ := iteG p
      cases rx
      rename_i a ha
      obtain ⟨v, rfl, r1⟩ := rs.only
      obtain ⟨b, ws, rfl, e2, r2⟩ := lw_ok W r1 hy
      obtain ⟨o, ho, hc⟩ := W.at_ n _ a hn ha
      cases o <;> first | exact hc.elim | skip
      rename_i vs
      have hr : Rps K F α H xs' vs := hc
      obtain ⟨e, W'⟩ := W.put ha (c := .lst (xs' ++ ys)) (o := .lst (vs ++ ws)) (hr.append r2)
      exact ⟨a, b, vs, ws, rfl, rfl, ho, e2, by rw [← hr.length, ← r2.length]; exact fits_ok hl, p _ _ _ _ e W' .non⟩
    · exact p.elim
  · exact p.elim
theorem p_lindex : MtP K (rIndex K) oLIndex := by
  intro F α m H d ds x xs Q E W rx rs p
  unfold oLIndex at p
  split at p
  · rename_i y
    split at p
    · rename_i ys hy
      obtain ⟨hf, p⟩ := iteG p
      rw [Bool.and_eq_true] at hf
      split at p
      · rename_i j hj
        obtain ⟨v, rfl, r1⟩ := rs.only
        obtain ⟨a, vs, rfl, e1, r2⟩ := lv_ok W rx hy
        obtain ⟨hlt, h1, h2⟩ := List.findIdx?_eq_some_iff_getElem.mp hj
        have all : ∀ (i : Nat) (h : i < ys.length), flatP ys[i] = true := fun i h => List.all_eq_true.mp hf.2 _ (List.getElem_mem h)
        obtain ⟨w, hw, rw'⟩ := r2.get (List.getElem?_eq_getElem hlt)
        refine ⟨a, vs, v, j, w, rfl, rfl, e1, flat_of r1 hf.1, flats_of r2 hf.2, hw, ?_, fun k z' hk hz => ?_, p.here W (.int _)⟩
        · rw [eqF_of rw' r1 (all j hlt) hf.1]; exact h1
        · have hk' : k < ys.length := by omega
          obtain ⟨z, hz2, rz⟩ := r2.get (List.getElem?_eq_getElem hk')
          rw [hz] at hz2; cases hz2
          rw [eqF_of rz r1 (all k hk') hf.1]
          simpa using h2 k hk
      · exact p.elim
    · exact p.elim
  · exact p.elim
end
theorem tBM_of {K : PySem.W.Frag} {E : St → XK} {fo : FE} {fr : FA} {T : String} {ty : M → P → Bool} {r : V → List V → Hp → VK → Prop} {o : P → List P → M → Res P} (ht : TyP K T ty) (ho : MtP K r o) {σ H Q} (w : tP K E (fMt ty o fo fr) σ H Q) : tBM K T r (tP K E fo) (tA K E fr) σ H Q := by
  obtain ⟨ρ, m, F, α, W, R, p⟩ := w
  refine tP_bind W R p fun d m1 F1 α1 H1 x e1 W1 R1 rx p1 => ?_
  obtain ⟨hty, p1⟩ := iteG p1
  exact ⟨ht W1 rx hty, tA_bind W1 R1 p1 fun ds m2 F2 α2 H2 ys e2 W2 R2 rs p2 => ho W2 (rx.mono W1.nf e2) rs p2⟩
theorem tBM0_of {K : PySem.W.Frag} {E : St → XK} {fo : FE} {T : String} {ty : M → P → Bool} {r : V → List V → Hp → VK → Prop} {o : P → List P → M → Res P} (ht : TyP K T ty) (ho : MtP K r o) {σ H Q} (w : tP K E (fMt ty o fo fNil) σ H Q) : tBM0 K T r (tP K E fo) σ H Q := by
  obtain ⟨ρ, m, F, α, W, R, p⟩ := w
  refine tP_bind W R p fun d m1 F1 α1 H1 x e1 W1 R1 rx p1 => ?_
  obtain ⟨hty, p1⟩ := iteG p1
  exact ⟨ht W1 rx hty, ho W1 rx .nil p1⟩
/-- one of two receivers, by what it is -/
def fMt2 (ty1 ty2 : M → P → Bool) (o1 o2 : P → List P → M → Res P) (fo : FE) (fa : FA) : FE := fun ρ m => (fo ρ m).bind fun d m1 => if ty1 m1 d = true then (fa ρ m1).bind fun ds m2 => o1 d ds m2 else if ty2 m1 d = true then (fa ρ m1).bind fun ds m2 => o2 d ds m2 else .stuck
theorem fMt2_sel {K : PySem.W.Frag} {E : St → XK} {ty1 ty2 : M → P → Bool} {o1 o2 : P → List P → M → Res P} {fo : FE} {fa : FA} {σ H Q} (w : tP K E (fMt2 ty1 ty2 o1 o2 fo fa) σ H Q) : tP K E (fMt ty1 o1 fo fa) σ H Q ∨ tP K E (fMt ty2 o2 fo fa) σ H Q := by
  obtain ⟨ρ, m, F, α, W, R, p⟩ := w
  cases hf : fo ρ m with
  | ok d m1 =>
    by_cases h1 : ty1 m1 d = true
    · refine .inl ⟨ρ, m, F, α, W, R, ?_⟩
      simp only [fMt2, fMt, hf, Res.bind, if_pos h1] at p ⊢
      exact p
    · refine .inr ⟨ρ, m, F, α, W, R, ?_⟩
      simp only [fMt2, fMt, hf, Res.bind, if_neg h1] at p ⊢
      exact p
  | exc c fs m1 =>
    refine .inl ⟨ρ, m, F, α, W, R, ?_⟩
    simp only [fMt2, fMt, hf, Res.bind] at p ⊢
    exact p
  | stuck =>
    simp only [fMt2, hf, Res.bind] at p
    exact p.elim
section
variable {X : Cx} {E : St → XK} {o e : Expr} {es : List Expr} {apos cpos : Pos} {fo : FE} {fr : FA} {T : String} {name : Str} {id : String} {ty : M → P → Bool} {r : V → List V → Hp → VK → Prop} {oo : P → List P → M → Res P}
theorem pp_mt (pa : PlainAttrs T) (slot : Slot T name id) (hty : typeOf (.builtin id) = pure (.type "method_descriptor")) (hm : MtR X id r) (ht : TyP X.K T ty) (hop : MtP X.K r oo) (ho : PE X o (tP X.K E fo)) (ha : PA X (e :: es) (tA X.K E fr))
    (hbase : attributeBase o name X.env (eval o X.env) = eval o X.env := by rfl)
    (hfew : ((backTo cpos (starEach (e :: es) X.env)).all (fun x => !x.1) && (backToKw cpos (keywordEach [] X.env)).all (fun x => x.1.isSome)
      && decide ((e :: es).length + ([] : List Keyword).length + (if ([] : List Keyword).isEmpty then 0 else 1) < 30)) = true := by rfl)
    (hline : (apos.endLine == cpos.line) = true := by rfl) (hs : starEach (e :: es) X.env = (false, eval e X.env) :: starEach es X.env := by rfl) (hplain : (backTo cpos (starEach es X.env)).any (·.1) = false := by rfl) :
    PE X (.Call (.Attribute o name apos) (e :: es) [] cpos) (tP X.K E (fMt ty oo fo fr)) := pe_imp (pe_bm pa slot hty hm ho ha hbase hfew hline hs hplain) fun σ H Q w => tBM_of ht hop w
theorem pp_mt0 (pa : PlainAttrs T) (slot : Slot T name id) (hty : typeOf (.builtin id) = pure (.type "method_descriptor")) (hm : MtR X id r) (ht : TyP X.K T ty) (hop : MtP X.K r oo) (ho : PE X o (tP X.K E fo))
    (hbase : attributeBase o name X.env (eval o X.env) = eval o X.env := by rfl) (hline : (apos.endLine == cpos.line) = true := by rfl) : PE X (.Call (.Attribute o name apos) [] [] cpos) (tP X.K E (fMt ty oo fo fNil)) :=
  pe_imp (pe_bm0 pa slot hty hm ho hbase hline) fun σ H Q w => tBM0_of ht hop w
def rSIdx : V → List V → Hp → VK → Prop := fun x xs H Q => ∃ a b i rest, x = .str a ∧ xs = [.str b] ∧ Builtin.Str.occurrences a b 0 a.length 1 = i :: rest ∧ Q (.int (i : Nat)) H
theorem p_sindex {K : PySem.W.Frag} : MtP K rSIdx oSIndex := by
  intro F α m H d ds x xs Q E W rx rs p
  unfold oSIndex at p
  split at p
  · split at p
    · rename_i i rest hi
      cases rx
      obtain ⟨v, rfl, r1⟩ := rs.only
      cases r1
      exact ⟨_, _, i, rest, rfl, rfl, hi, p.here W (.int _)⟩
    · exact p.elim
  · exact p.elim
theorem pp_index (ho : PE X o (tP X.K E fo)) (ha : PA X (e :: es) (tA X.K E fr))
    (hbase : attributeBase o "index" X.env (eval o X.env) = eval o X.env := by rfl)
    (hfew : ((backTo cpos (starEach (e :: es) X.env)).all (fun x => !x.1) && (backToKw cpos (keywordEach [] X.env)).all (fun x => x.1.isSome)
      && decide ((e :: es).length + ([] : List Keyword).length + (if ([] : List Keyword).isEmpty then 0 else 1) < 30)) = true := by rfl)
    (hline : (apos.endLine == cpos.line) = true := by rfl) (hs : starEach (e :: es) X.env = (false, eval e X.env) :: starEach es X.env := by rfl) (hplain : (backTo cpos (starEach es X.env)).any (·.1) = false := by rfl) :
    PE X (.Call (.Attribute o "index" apos) (e :: es) [] cpos) (tP X.K E (fMt2 isL isS oLIndex oSIndex fo fr)) :=
  pe_imp (pe_alt (pe_bm F.plainAttrs_list F.slot_list_index F.type_list_index mt_index ho ha hbase hfew hline hs hplain) (pe_bm F.plainAttrs_str F.slot_str_index F.type_str_index (r := rSIdx) mt_sindex ho ha hbase hfew hline hs hplain))
    fun σ H Q w => (fMt2_sel w).imp (fun z => tBM_of ty_list p_lindex z) fun z => tBM_of ty_str p_sindex z
end
/-! ### str.join -/
def strsP : List P → Option (List Str)
  | [] => some []
  | .str i :: r => (strsP r).map (i :: ·)
  | _ :: _ => none
theorem strsP_rps {K F α H} : ∀ {xs : List P} {vs : List V} {ns : List Str}, Rps K F α H xs vs → strsP xs = some ns → vs = ns.map V.str
  | [], _, ns, r, h => by cases r; simp only [strsP, Option.some.injEq] at h; subst h; rfl
  | x :: xs, _, ns, r, h => by
    cases r with
    | cons r1 rr =>
      cases x <;> simp only [strsP] at h <;> try cases h
      obtain ⟨ms, h1, rfl⟩ := Option.map_eq_some_iff.mp h
      cases r1
      rw [strsP_rps rr h1]
      rfl
def oJoin (d e : P) (m : M) : Res P := match d, sv m e with
  | .str a, some xs => match strsP xs with
    | some ys => if decide ((ys.map (·.length)).sum + ys.length * a.length ≤ 16777216) = true then .ok (.str (Txt.join a ys)) m else .stuck
    | none => .stuck
  | _, _ => .stuck
def fJoin (fo fe : FE) : FE := fun ρ m => (fo ρ m).bind fun d m1 => if isS m1 d = true then (fe ρ m1).bind fun e m2 => oJoin d e m2 else .stuck
theorem pp_join {X : Cx} {E : St → XK} {o e : Expr} {fo fe : FE} {apos pos : Pos} (ho : PE X o (tP X.K E fo)) (he : PE X e (tP X.K E fe)) (hs : starEach [e] X.env = [(false, eval e X.env)] := by rfl) (hbase : attributeBase o "join" X.env (eval o X.env) = eval o X.env := by rfl) (hline : (apos.endLine == pos.line) = true := by rfl) :
    PE X (.Call (.Attribute o "join" apos) [e] [] pos) (tP X.K E (fJoin fo fe)) :=
  pe_imp (pe_join ho he hs hbase hline) fun σ H Q ⟨ρ, m, F, α, W, R, p⟩ => tP_bind W R p fun d m1 F1 α1 H1 x e1 W1 R1 rx p1 => by
    obtain ⟨hty, p1⟩ := iteG p1
    have hx : ∃ z, d = .str z := by cases d <;> first | exact ⟨_, rfl⟩ | cases hty
    obtain ⟨z, rfl⟩ := hx
    cases rx
    refine ⟨⟨z, rfl⟩, tP_bind W1 R1 p1 fun d2 m2 F2 α2 H2 y e2 W2 R2 ry p2 => ?_⟩
    unfold oJoin at p2
    split at p2
    · rename_i a xs hx ha
      cases hx
      split at p2
      · rename_i ys hy
        obtain ⟨hz, p2⟩ := iteG p2
        obtain ⟨b, vs, rfl, e3, r3⟩ := sv_ok W2 ry ha
        have := strsP_rps r3 hy
        subst this
        exact ⟨_, b, ys, rfl, rfl, e3, of_decide_eq_true hz, p2.here W2 (.str _)⟩
      · exact p2.elim
    · exact p2.elim
end
/-! N9 -/
section
open PySem PySem.Spec PyProof.Rows
theorem u200 {k : Nat} {A : Around} (h : Room k A) : A.units + 200 < cLine := by have := h.un; omega
end
/-! N10 -/
section
open PySem PySem.Spec PyProof.Rows
/-- the class and the fields of an object -/
def insv (m : M) : P → Option (Str × List (Str × P))
  | .obj C fs => some (C, fs)
  | .cell n => match m[n]? with
    | some (.ins C fs) => some (C, fs)
    | _ => none
  | _ => none
def fget (f : Str) : List (Str × P) → Option P
  | [] => none
  | (g, x) :: r => if g = f then some x else fget f r
def fput (f : Str) (v : P) : List (Str × P) → List (Str × P)
  | [] => [(f, v)]
  | (g, x) :: r => if g = f then (g, v) :: r else (g, x) :: fput f v r
section
variable {K : PySem.W.Frag} {F : Addr → Prop} {α : List Addr} {H : Hp} {m : M}
theorem insv_ok (W : Wk K F α m H) {d : P} {v : V} (r : Rp K F α H d v) {C : Str} {fs : List (Str × P)} (h : insv m d = some (C, fs)) :
    ∃ a dx ws, v = .ref a ∧ H a = some (.ins (He.ga K C) dx ws) ∧ fs.map (·.1) = ws.map (·.1) ∧ Rps K F α H (fs.map (·.2)) (ws.map (·.2)) := by
  cases d <;> simp only [insv] at h <;> try cases h
  · cases r
    rename_i a dx ws f e1 e2 e3
    exact ⟨_, _, _, rfl, e1, e2, e3⟩
  · rename_i n
    split at h
    · rename_i C' fs' hn
      cases h
      cases r
      rename_i a ha
      obtain ⟨o, ho, hc⟩ := W.at_ n _ a hn ha
      cases o <;> first | exact hc.elim | skip
      obtain ⟨rfl, hc1, hc2⟩ := hc
      exact ⟨_, _, _, rfl, ho, hc1, hc2⟩
    · cases h
theorem fget_ok {f : Str} : ∀ {fs : List (Str × P)} {ws : List (Str × V)}, fs.map (·.1) = ws.map (·.1) → Rps K F α H (fs.map (·.2)) (ws.map (·.2)) → (∀ z, fget f fs = some z → ∃ w, ws.lookup f = some w ∧ Rp K F α H z w) ∧ (fget f fs = none → ws.lookup f = none)
  | [], [], _, _ => ⟨fun z h => by simp [fget] at h, fun _ => rfl⟩
  | [], _ :: _, h, _ => by simp at h
  | _ :: _, [], h, _ => by simp at h
  | (g, x) :: fs, (g', y) :: ws, h, r => by
    simp only [List.map_cons, List.cons.injEq] at h
    obtain ⟨h1, h2⟩ := h
    have h1 : g = g' := h1
    subst h1
    cases r with
    | cons r1 r2 =>
      have ih := fget_ok (f := f) h2 r2
      by_cases hg : g = f
      · subst hg
        refine ⟨fun z hz => ?_, fun hz => ?_⟩
        · rw [fget, if_pos rfl] at hz
          cases hz
          exact ⟨y, by rw [List.lookup_cons, beq_self_eq_true], r1⟩
        · rw [fget, if_pos rfl] at hz; cases hz
      · have hb : (f == g) = false := beq_eq_false_iff_ne.mpr fun e => hg e.symm
        refine ⟨fun z hz => ?_, fun hz => ?_⟩
        · rw [fget, if_neg hg] at hz
          obtain ⟨w, e, rw'⟩ := ih.1 z hz
          exact ⟨w, by rw [List.lookup_cons, hb]; exact e, rw'⟩
        · rw [fget, if_neg hg] at hz
          rw [List.lookup_cons, hb]; exact ih.2 hz
theorem fput_ok {f : Str} {z : P} {w : V} (rz : Rp K F α H z w) : ∀ {fs : List (Str × P)} {ws : List (Str × V)}, fs.map (·.1) = ws.map (·.1) → Rps K F α H (fs.map (·.2)) (ws.map (·.2)) →
    (fput f z fs).map (·.1) = (putF f w ws).map (·.1) ∧ Rps K F α H ((fput f z fs).map (·.2)) ((putF f w ws).map (·.2))
  | [], [], _, _ => ⟨rfl, .cons rz .nil⟩
  | [], _ :: _, h, _ => by simp at h
  | _ :: _, [], h, _ => by simp at h
  | (g, x) :: fs, (g', y) :: ws, h, r => by
    simp only [List.map_cons, List.cons.injEq] at h
    obtain ⟨h1, h2⟩ := h
    have h1 : g = g' := h1
    subst h1
    cases r with
    | cons r1 r2 =>
      have ih := fput_ok (f := f) rz h2 r2
      by_cases hg : g = f
      · rw [fput, putF, if_pos hg, if_pos hg]
        exact ⟨by rw [List.map_cons, List.map_cons, h2], .cons rz r2⟩
      · rw [fput, putF, if_neg hg, if_neg hg]
        exact ⟨by rw [List.map_cons, List.map_cons, ih.1], .cons r1 ih.2⟩
end
/-! ### reading a field -/
def oFld (C f : Str) (d : P) (m : M) : Res P := match insv m d with
  | some (C', fs) => if C' = C then match fget f fs with
    | some z => .ok z m
    | none => .stuck
    else .stuck
  | none => .stuck
def oPutF (C f : Str) (d v : P) (m : M) : Option M := match d with
  | .cell n => match m[n]? with
    | some (.ins C' fs) => if C' = C ∧ fs.length < 1000 then some (m.set n (.ins C (fput f v fs))) else none
    | _ => none
  | _ => none
def fFld (C f : Str) (fo : FE) : FE := fUn (oFld C f) fo
def fSetF (C f : Str) (fo fv : FE) : FS := fun ρ m => (fv ρ m).outs ρ fun v m1 => (fo ρ m1).outs ρ fun d m2 => match oPutF C f d v m2 with
  | some m3 => .nx ρ m3
  | none => .stuck
def fAugF (C f : Str) (fo : FE) (o : P → P → M → Res P) (fe : FE) : FS := fun ρ m => (fo ρ m).outs ρ fun d m1 => (oFld C f d m1).outs ρ fun x m2 => (fe ρ m2).outs ρ fun e m3 => (o x e m3).outs ρ fun z m4 => match oPutF C f d z m4 with
  | some m5 => .nx ρ m5
  | none => .stuck
def augIK (C : Addr) (f : Str) (tv : TE) (rd : V → V → Hp → VK → Prop) (σ : St) (x : V) (H : Hp) (Q : Hp → Prop) : Prop := ∃ a dx fs v, x = .ref a ∧ H a = some (.ins C dx fs) ∧ fs.lookup f = some v ∧
  tv σ H fun y H2 => rd v y H2 fun z H3 => ∃ dx' fs', H3 a = some (.ins C dx' fs') ∧ fs'.length < 1000 ∧ Q (upd H3 a (.ins C dx' (putF f z fs')))
def sFldAugI (C : Addr) (f : Str) (rd : V → V → Hp → VK → Prop) (ta tv : TE) : TS := fun D σ H => ta σ H fun x H1 => augIK C f tv rd σ x H1 (D.nx σ)
theorem ps_fldaugI {X : Cx} {C : Addr} {f : Str} {o value : Expr} {pos tpos : Pos} {ta tv : TE} {op : Operator} {rd : V → V → Hp → VK → Prop} (c : Cls X.K C) (n : NoAttr X.K C f) (ha : PE X o ta) (hv : PE X value tv) (hop : PIp X op rd) :
    PS X (.AugAssign (.Attribute o f tpos) op value pos) (sFldAugI C f rd ta tv) := by
  refine ⟨fun pins s σ H D I h => ?_⟩
  refine wpAny_AugAssign_AttributeAny (thn (ha.run pins s σ H _ I h) fun ov s1 ⟨x, H1, I1, rx, a, dx, fs, v, ex, ea, l, q⟩ => ?_)
  subst ex
  obtain rfl : ov = Value.ref a := rx
  refine getattr_ok I1 ea c n l fun u s2 I2 ru => thn (hv.run pins s2 σ H1 _ I2 q) fun w3 s3 ⟨y, H2, I3, ry, q3⟩ => thn (hop pins s3 σ H2 _ y u w3 _ I3 ru ry q3) fun w4 s4 ⟨z, H3, I4, rz, dx', fs', ea', hl, q4⟩ => ?_
  exact setattr_ok I4 ea' c n hl rz fun s5 I5 => ⟨σ, _, I5, q4⟩
section
variable {K : PySem.W.Frag} {F : Addr → Prop} {α : List Addr} {H : Hp} {m : M}
theorem oFld_ok {C f : Str} {d : P} {x : V} (W : Wk K F α m H) (rx : Rp K F α H d x) {β γ : Type} {RR : (Addr → Prop) → List Addr → Hp → β → γ → Prop} {r : Res P} (hr : r = oFld C f d m) (hs : r ≠ .stuck) :
    ∃ a dx fs v z, x = .ref a ∧ H a = some (.ins (He.ga K C) dx fs) ∧ fs.lookup f = some v ∧ r = .ok z m ∧ Rp K F α H z v := by
  subst hr
  unfold oFld at hs ⊢
  split at hs
  · rename_i C' fs h
    split at hs
    · rename_i hC
      subst hC
      split at hs
      · rename_i z hz
        obtain ⟨a, dx, ws, e1, e2, e3, e4⟩ := insv_ok W rx h
        obtain ⟨w, l, rw'⟩ := (fget_ok e3 e4).1 z hz
        exact ⟨a, dx, ws, w, z, e1, e2, l, by simp only [if_true], rw'⟩
      · exact absurd rfl hs
    · exact absurd rfl hs
  · exact absurd rfl hs
theorem p_fld {C f : Str} : UnP K (fldIK (He.ga K C) f) (oFld C f) := by
  intro F α m H d x Q E W rx p
  obtain ⟨a, dx, fs, v, z, e1, e2, e3, e4, e5⟩ := oFld_ok (C := C) (f := f) (β := P) (γ := V) (RR := VR K) W rx rfl fun e => by rw [e] at p; exact p
  rw [e4] at p
  exact ⟨a, dx, fs, v, e1, e2, e3, p.here W e5⟩
theorem oPutF_ok {C f : Str} {d v : P} {x y : V} {m' : M} {G : Hp → Prop} (W : Wk K F α m H) (rx : Rp K F α H d x) (ry : Rp K F α H v y) (h : oPutF C f d v m = some m')
    (g : ∀ a dx fs, x = .ref a → H a = some (.ins (He.ga K C) dx fs) → fs.length < 1000 → Ex F α H F α (upd H a (.ins (He.ga K C) dx (putF f y fs))) → Wk K F α m' (upd H a (.ins (He.ga K C) dx (putF f y fs))) → G (upd H a (.ins (He.ga K C) dx (putF f y fs)))) : initK (He.ga K C) f x y H G := by
  unfold oPutF at h
  split at h
  · rename_i n
    split at h
    · rename_i C' fs hn
      split at h
      · rename_i hC
        cases h
        obtain ⟨rfl, hl⟩ := hC
        cases rx
        rename_i a ha
        obtain ⟨o, ho, hc⟩ := W.at_ n _ a hn ha
        cases o <;> first | exact hc.elim | skip
        rename_i C2 dx ws
        obtain ⟨rfl, hc1, hc2⟩ := hc
        have hp := fput_ok (f := f) ry hc1 hc2
        have hw : ws.length < 1000 := by
          have := congrArg List.length hc1
          rw [List.length_map, List.length_map] at this
          omega
        obtain ⟨e, W'⟩ := W.put ha (c := .ins C' (fput f v fs)) (o := .ins (He.ga K C') dx (putF f y ws)) ⟨rfl, hp.1, hp.2⟩
        exact ⟨a, dx, ws, rfl, ho, hw, g a dx ws rfl ho hw e W'⟩
      · cases h
    · cases h
  · cases h
end
section
variable {X : Cx} {E : St → XK} {e o value : Expr} {es : List Expr} {pos pos' tpos apos p : Pos} {C f : Str} {fo fv fe : FE} {fr : FA}
theorem pp_fld (c : Cls X.K (He.ga X.K C)) (n : NoAttr X.K (He.ga X.K C) f) (he : PE X e (tP X.K E fe)) (hb : attributeBase e f X.env (eval e X.env) = eval e X.env := by rfl) : PE X (.Attribute e f pos) (tP X.K E (fFld C f fe)) :=
  pe_imp (pe_fldI c n he hb) fun σ H Q w => tUn_of p_fld w
theorem pp_setF (c : Cls X.K (He.ga X.K C)) (n : NoAttr X.K (He.ga X.K C) f) (ho : PE X o (tP X.K E fo)) (hv : PE X value (tP X.K E fv)) (hs : swapsWith value (some (.Attribute o f pos')) pos.line X.env = pure false := by rfl) :
    PS X (.Assign [.Attribute o f pos'] value pos) (tS X.K E (fSetF C f fo fv)) :=
  ps_imp (ps_fldi c n ho hv hs) fun D σ H ⟨ρ, m, F, α, W, R, p⟩ => tP_outs W R p fun d m1 F1 α1 H1 y e1 W1 R1 ry p1 => tP_outs W1 R1 p1 fun d2 m2 F2 α2 H2 x e2 W2 R2 rx p2 => by
    split at p2
    · rename_i m3 h3
      exact oPutF_ok W2 rx (ry.mono W1.nf e2) h3 fun a dx fs _ _ _ e3 W3 => p2 _ _ _ _ e3 W3 (R2.mono W2.nf e3)
    · exact p2.elim
theorem pp_augF {op : Operator} {ti : TIp} {oo : P → P → M → Res P} (c : Cls X.K (He.ga X.K C)) (n : NoAttr X.K (He.ga X.K C) f) (ho : PE X o (tP X.K E fo)) (he : PE X value (tP X.K E fe)) (hr : PIp X op ti) (hop : OpP X.K ti oo) :
    PS X (.AugAssign (.Attribute o f tpos) op value pos) (tS X.K E (fAugF C f fo oo fe)) :=
  ps_imp (ps_fldaugI c n ho he hr) fun D σ H ⟨ρ, m, F, α, W, R, p⟩ => tP_outs W R p fun d m1 F1 α1 H1 x e1 W1 R1 rx p1 => by
    obtain ⟨a, dx, fs, v, z, q1, q2, q3, q4, q5⟩ := oFld_ok (C := C) (f := f) (β := P) (γ := V) (RR := VR X.K) W1 rx rfl fun e => by rw [e] at p1; exact p1
    rw [q4] at p1
    refine ⟨a, dx, fs, v, q1, q2, q3, tP_outs W1 R1 p1 fun d3 m3 F3 α3 H3 y e3 W3 R3 ry p3 => hop (E := E σ) W3 (q5.mono W1.nf e3) ry (Post.outs W3 R3 p3 fun d4 m4 F4 α4 H4 z4 e4 W4 R4 rz p4 => ?_)⟩
    split at p4
    · rename_i m5 h5
      have rx4 := (rx.mono W1.nf e3).mono W3.nf e4
      obtain ⟨a', dx', fs', ex, ea, hl, g⟩ := oPutF_ok (G := D.nx σ) W4 rx4 rz h5 fun a dx fs _ _ _ e3 W3 => p4 _ _ _ _ e3 W3 (R4.mono W4.nf e3)
      rw [q1] at ex
      cases ex
      exact ⟨dx', fs', ea, hl, g⟩
    · exact p4.elim
end
/-! ### methods, making -/
def fMeth (C mm : Str) (k : Nat) (f : FN) (fo : FE) (fr : FA) : FE := fun ρ m => (fo ρ m).bind fun d m1 => match insv m1 d with
  | some (C', fs) => if C' = C then match fget mm fs with
    | none => (fr ρ m1).bind fun ds m2 => gd k f (d :: ds) m2
    | some _ => .stuck
    else .stuck
  | none => .stuck
def fMake (C : Str) (k : Nat) (f : FN) (fr : FA) : FE := fun ρ m => (fr ρ m).bind fun ds m1 => (gd k f (.cell m1.length :: ds) (m1 ++ [.ins C []])).bind fun z m2 => match z with
  | .non => .ok (.cell m1.length) m2
  | _ => .stuck
section
variable {X : Cx} {CX : CXT} {k n : Nat} {ps : List Str} {E : St → XK} {x mm C : Str} {p pos apos : Pos} {e o : Expr} {es : List Expr} {fo : FE} {fr : FA} {f : FN}
theorem meth_of {σ H Q} (w : tP X.K E (fMeth C mm n f fo fr) σ H Q) : tMethZ (He.ga X.K C) mm (spF X.K n f) E (tP X.K E fo) (tA X.K E fr) σ H Q := by
  obtain ⟨ρ, m, F, α, W, R, p⟩ := w
  refine tP_bind W R p fun d m1 F1 α1 H1 x e1 W1 R1 rx p1 => ?_
  split at p1
  · rename_i C' fs hi
    split at p1
    · rename_i hC
      subst hC
      split at p1
      · rename_i hg
        obtain ⟨a, dx, ws, q1, q2, q3, q4⟩ := insv_ok W1 rx hi
        exact ⟨a, dx, ws, q1, q2, (fget_ok q3 q4).2 hg, tA_bind W1 R1 p1 fun ds m2 F2 α2 H2 ys e2 W2 R2 ry p2 => ⟨d :: ds, m2, F2, α2, W2, .cons (rx.mono W1.nf e2) ry, p2⟩⟩
      · exact p1.elim
    · exact p1.elim
  · exact p1.elim
theorem pp_meth {pl : Sem Bool} (G : Con X.prog X.w X.K X.mg X.base CX k (C, some mm) ps (spF X.K n f)) (hr : Room k X.A) (c : Cls X.K (He.ga X.K C)) (hm : Meth X.K (He.ga X.K C) mm (He.ma X.K (He.ga X.K C) mm)) (hx : ∀ σ, PassesAt CX X σ (E σ))
    (he : PE X o (tP X.K E fo)) (ha : PA X (e :: es) (tA X.K E fr))
    (hst : starEach (e :: es) X.env = (false, eval e X.env) :: starEach es X.env := by rfl) (hpl : (backTo pos (starEach es X.env)).any (·.1) = false := by rfl)
    (ht : eval (.Call (.Attribute o mm apos) (e :: es) [] pos) X.env = (do
      let ov ← eval o X.env
      standAt apos.atName
      let (f, first) ← holding [ov] (getMethod ov mm pl)
      callWith pos f first (backTo pos (starEach (e :: es) X.env)) (backToKw pos (keywordEach [] X.env))) := by rfl) :
    PE X (.Call (.Attribute o mm apos) (e :: es) [] pos) (tP X.K E (fMeth C mm n f fo fr)) :=
  pe_imp (pe_mz (E := E) G hr c hm hx he ha hst hpl ht) fun σ H Q w => meth_of w
theorem pp_meth0 {pl : Sem Bool} (G : Con X.prog X.w X.K X.mg X.base CX k (C, some mm) ps (spF X.K n f)) (hr : Room k X.A) (c : Cls X.K (He.ga X.K C)) (hm : Meth X.K (He.ga X.K C) mm (He.ma X.K (He.ga X.K C) mm)) (hx : ∀ σ, PassesAt CX X σ (E σ))
    (he : PE X o (tP X.K E fo))
    (ht : eval (.Call (.Attribute o mm apos) [] [] pos) X.env = (do
      let ov ← eval o X.env
      standAt apos.atName
      let (f, first) ← holding [ov] (getMethod ov mm pl)
      callWith pos f first (backTo pos (starEach [] X.env)) (backToKw pos (keywordEach [] X.env))) := by rfl) :
    PE X (.Call (.Attribute o mm apos) [] [] pos) (tP X.K E (fMeth C mm n f fo fNil)) := by
  refine pe_imp (pe_mz0 (E := E) G hr c hm hx he ht) fun σ H Q ⟨ρ, m, F, α, W, R, p⟩ => ?_
  refine tP_bind W R p fun d m1 F1 α1 H1 x e1 W1 R1 rx p1 => ?_
  split at p1
  · rename_i C' fs hi
    split at p1
    · rename_i hC
      subst hC
      split at p1
      · rename_i hg
        obtain ⟨a, dx, ws, q1, q2, q3, q4⟩ := insv_ok W1 rx hi
        exact ⟨a, dx, ws, q1, q2, (fget_ok q3 q4).2 hg, [d], m1, F1, α1, W1, .cons rx .nil, p1⟩
      · exact p1.elim
    · exact p1.elim
  · exact p1.elim
theorem make_of {σ H Q} (w : tP X.K E (fMake C n f fr) σ H Q) : tMakeZ (He.ga X.K C) (spF X.K n f) E (tA X.K E fr) σ H Q := by
  obtain ⟨ρ, m, F, α, W, R, p⟩ := w
  refine tA_bind W R p fun ds m1 F1 α1 H1 vs e1 W1 R1 rv p1 => ?_
  intro x dx hx hdx hne
  obtain ⟨eA, WA⟩ := W1.fz (o := .own x) hdx
  have hx2 : upd H1 dx (.own x) x = none := by rw [upd_ne (fun e => hne e.symm)]; exact hx
  obtain ⟨eB, WB⟩ := WA.add (c := .ins C []) (o := .ins (He.ga X.K C) dx []) hx2 ⟨rfl, rfl, .nil⟩
  have rv2 := (rv.mono W1.nf eA).mono WA.nf eB
  have hc : (α1 ++ [x])[m1.length]? = some x := by
    rw [← W1.len, List.getElem?_append_right (Nat.le_refl _), Nat.sub_self]; rfl
  refine ⟨.cell m1.length :: ds, m1 ++ [.ins C []], _, _, WB, .cons (.cell hc) rv2, Post.bind (RR := VR X.K) (p1.mono (eA.trans eB)) fun z m2 F2 α2 H2 v e2 W2 rz p2 => ?_⟩
  split at p2
  · cases rz
    exact ⟨rfl, p2.here W2 (.cell (al_get hc e2))⟩
  · exact p2.elim
theorem pp_make (G : Con X.prog X.w X.K X.mg X.base CX k (C, some "__init__") ps (spF X.K n f)) (M : Mk X.K (He.ga X.K C) (He.ma X.K (He.ga X.K C) "__init__")) (hr : Room (k + 1) X.A) (hg : Gl X C) (hm : X.mg C = some (.ref (He.ga X.K C))) (hx : ∀ σ, PassesAt CX X σ (E σ))
    (ha : PA X (e :: es) (tA X.K E fr)) (hdb : (C == ("__debug__" : Str)) = false := by decide) (he : starEach (e :: es) X.env = (false, eval e X.env) :: starEach es X.env := by rfl) (hpl : (backTo pos (starEach es X.env)).any (·.1) = false := by rfl) :
    PE X (.Call (.Name C p) (e :: es) [] pos) (tP X.K E (fMake C n f fr)) :=
  pe_imp (pe_kz (E := E) G M hr hg hm hx ha hdb he hpl) fun σ H Q w => make_of w
end
end
/-! N11 -/
section
open PySem PySem.Spec PyProof.Rows
def fRaise (c : Str) : FS := fun ρ m => .exc c [] ρ m
theorem pp_raise {X : Cx} {W : WX} {e : Expr} {pos : Pos} {c : Str} (hc : X.calm = true) (tk : Takes X W) (he : PMk X e (fun _ H Q => Q (.ref (He.ga X.K c)) none H)) : PS X (.Raise (some e) none pos) (tS X.K (WE W) (fRaise c)) :=
  ps_imp (ps_raise hc tk he) fun D σ H ⟨ρ, m, F, α, W', R, p⟩ => p σ F α H none Ex.refl W' R rfl
theorem EnvR.unset {K F α H} {ρ : Env} {σ : St} (h : EnvR K F α H ρ σ) (i : Nat) (o : Option V) : EnvR K F α H (ρ.set i none) (σ.set i o) := by
  refine ⟨by rw [List.length_set, List.length_set]; exact h.1, fun j e he => ?_⟩
  by_cases hj : i = j
  · subst hj
    by_cases hl : i < ρ.length
    · rw [List.getElem?_set_self hl] at he; cases he
    · rw [List.getElem?_eq_none (by rw [List.length_set]; omega)] at he; cases he
  · rw [List.getElem?_set_ne hj] at he ⊢
    exact h.2 j e he
theorem ExcD.mono {K F F' α α' H H'} {fs : List (Str × P)} {d : Option Addr} (nf : ∀ a, a ∈ α → ¬ F a) (e : Ex F α H F' α' H') (h : ExcD K F α H fs d) : ExcD K F' α' H' fs d := by
  cases d with
  | none => exact h
  | some d =>
    obtain ⟨h0, h1, ws, h2, h3, h4⟩ := h
    exact ⟨h0, e.f _ h1, ws, e.k _ _ h2 fun n => nf _ n h1, h3, h4.mono nf e⟩
/-- try: the body, who is caught, the suite -/
def fTry (ct : Str → Option Bool) (i : Option Nat) (fb : FS) (fh : Str → List (Str × P) → FS) : FS := fun ρ m => match fb ρ m with
  | .exc c fs ρ1 m1 => match ct c with
    | some true => match i with
      | some i => if i < ρ1.length then match fh c fs (ρ1.set i none) m1 with
        | .nx ρ2 m2 => .nx (ρ2.set i none) m2
        | .bk ρ2 m2 => .bk (ρ2.set i none) m2
        | .ct ρ2 m2 => .ct (ρ2.set i none) m2
        | .rt d m2 => .rt d m2
        | _ => .stuck
        else .stuck
      | none => match fh c fs ρ1 m1 with
        | .exc _ _ _ _ => .stuck
        | o => o
    | some false => .exc c fs ρ1 m1
    | none => .stuck
  | o => o
/-! ### a suite that holds an exception: slot i, address a, fields fs at d -/
section
variable (K : PySem.W.Frag) (i : Nat) (a : Addr) (d : Option Addr) (fs : List (Str × P))
def JJ (F : Addr → Prop) (α : List Addr) (H : Hp) (σ : St) : Prop := σ[i]? = some (some (.ref a)) ∧ ExcD K F α H fs d
def tPJ (f : FE) : TE := fun σ H Q => ∃ ρ m F α, Wk K F α m H ∧ EnvR K F α H ρ σ ∧ JJ K i a d fs F α H σ ∧ Post K (VR K) (f ρ m) F α H Q E0
def tAJ (f : FA) : TA := fun σ H Q => ∃ ρ m F α, Wk K F α m H ∧ EnvR K F α H ρ σ ∧ JJ K i a d fs F α H σ ∧ Post K (LR K) (f ρ m) F α H Q E0
def tTJ (f : FT) : TT := fun σ H Q => ∃ ρ m F α, Wk K F α m H ∧ EnvR K F α H ρ σ ∧ JJ K i a d fs F α H σ ∧ Post K BR (f ρ m) F α H Q E0
def tSJ (f : FS) : TS := fun D σ H => ∃ ρ m F α, Wk K F α m H ∧ EnvR K F α H ρ σ ∧ JJ K i a d fs F α H σ ∧ PostS K (f ρ m) F α H D (fun _ => E0)
end
section
variable {K : PySem.W.Frag} {F F' : Addr → Prop} {α α' : List Addr} {H H' : Hp} {m m' : M} {ρ : Env} {σ : St} {i : Nat} {a : Addr} {d : Option Addr} {fs : List (Str × P)}
theorem JJ.mono (J : JJ K i a d fs F α H σ) (nf : ∀ a, a ∈ α → ¬ F a) (e : Ex F α H F' α' H') : JJ K i a d fs F' α' H' σ := ⟨J.1, J.2.mono nf e⟩
theorem tPJ_bind {β γ : Type} {RR : (Addr → Prop) → List Addr → Hp → β → γ → Prop} {Q : γ → Hp → Prop} {f : FE} {k : P → M → Res β} {G : VK} (W : Wk K F α m H) (R : EnvR K F α H ρ σ) (J : JJ K i a d fs F α H σ) (h : Post K RR ((f ρ m).bind k) F α H Q E0)
    (hk : ∀ e m1 F1 α1 H1 x, Ex F α H F1 α1 H1 → Wk K F1 α1 m1 H1 → EnvR K F1 α1 H1 ρ σ → JJ K i a d fs F1 α1 H1 σ → Rp K F1 α1 H1 e x → Post K RR (k e m1) F1 α1 H1 Q E0 → G x H1) : tPJ K i a d fs f σ H G :=
  ⟨ρ, m, F, α, W, R, J, Post.bind h fun e m1 F1 α1 H1 x ex W1 r p => hk e m1 F1 α1 H1 x ex W1 (R.mono W.nf ex) (J.mono W.nf ex) r p⟩
theorem tAJ_bind {β γ : Type} {RR : (Addr → Prop) → List Addr → Hp → β → γ → Prop} {Q : γ → Hp → Prop} {f : FA} {k : List P → M → Res β} {G : List V → Hp → Prop} (W : Wk K F α m H) (R : EnvR K F α H ρ σ) (J : JJ K i a d fs F α H σ) (h : Post K RR ((f ρ m).bind k) F α H Q E0)
    (hk : ∀ e m1 F1 α1 H1 x, Ex F α H F1 α1 H1 → Wk K F1 α1 m1 H1 → EnvR K F1 α1 H1 ρ σ → JJ K i a d fs F1 α1 H1 σ → Rps K F1 α1 H1 e x → Post K RR (k e m1) F1 α1 H1 Q E0 → G x H1) : tAJ K i a d fs f σ H G :=
  ⟨ρ, m, F, α, W, R, J, Post.bind h fun e m1 F1 α1 H1 x ex W1 r p => hk e m1 F1 α1 H1 x ex W1 (R.mono W.nf ex) (J.mono W.nf ex) r p⟩
theorem tTJ_bind {β γ : Type} {RR : (Addr → Prop) → List Addr → Hp → β → γ → Prop} {Q : γ → Hp → Prop} {f : FT} {k : Bool → M → Res β} {G : Bool → Hp → Prop} (W : Wk K F α m H) (R : EnvR K F α H ρ σ) (J : JJ K i a d fs F α H σ) (h : Post K RR ((f ρ m).bind k) F α H Q E0)
    (hk : ∀ e m1 F1 α1 H1, Ex F α H F1 α1 H1 → Wk K F1 α1 m1 H1 → EnvR K F1 α1 H1 ρ σ → JJ K i a d fs F1 α1 H1 σ → Post K RR (k e m1) F1 α1 H1 Q E0 → G e H1) : tTJ K i a d fs f σ H G :=
  ⟨ρ, m, F, α, W, R, J, Post.bind h fun e m1 F1 α1 H1 x ex W1 r p => by cases r; exact hk e m1 F1 α1 H1 ex W1 (R.mono W.nf ex) (J.mono W.nf ex) p⟩
end
def fIsE (t : Option Bool) (fs : List (Str × P)) : FE := fun _ m => match t, fs with
  | some b, [] => .ok (.bl b) m
  | _, _ => .stuck
def fExF (f : Str) (fs : List (Str × P)) : FE := fun _ m => match fget f fs with
  | some z => .ok z m
  | none => .stuck
section
variable {X : Cx} {e ae be : Expr} {es rest : List Expr} {st : Stmt} {sts sa sb : List Stmt} {pos p2 : Pos} {fa fb : FE} {fr : FA} {ta tb : FT} {f g : FS} {i : Nat} {a : Addr} {d : Option Addr} {fs : List (Str × P)}
theorem pe_j (h : PE X e (tP X.K (fun _ => E0) fa)) : PE X e (tPJ X.K i a d fs fa) := pe_imp h fun σ H Q ⟨ρ, m, F, α, W, R, _, p⟩ => ⟨ρ, m, F, α, W, R, p⟩
theorem pt_j (h : PT X e (tT X.K (fun _ => E0) ta)) : PT X e (tTJ X.K i a d fs ta) := pt_imp h fun σ H Q ⟨ρ, m, F, α, W, R, _, p⟩ => ⟨ρ, m, F, α, W, R, p⟩
theorem ps_j (h : PS X st (tS X.K (fun _ => E0) f)) : PS X st (tSJ X.K i a d fs f) := ps_imp h fun D σ H ⟨ρ, m, F, α, W, R, _, p⟩ => ⟨ρ, m, F, α, W, R, p⟩
theorem pss_j (h : PSs X sts (tS X.K (fun _ => E0) f)) : PSs X sts (tSJ X.K i a d fs f) := pss_imp h fun D σ H ⟨ρ, m, F, α, W, R, _, p⟩ => ⟨ρ, m, F, α, W, R, p⟩
theorem pj_nil : PA X [] (tAJ X.K i a d fs fNil) := pa_imp pa_nil fun σ H Q ⟨ρ, m, F, α, W, R, _, p⟩ => p.here W .nil
theorem pj_cons (ha : PE X ae (tPJ X.K i a d fs fa)) (hr : PA X es (tAJ X.K i a d fs fr)) (he : starEach (ae :: es) X.env = (false, eval ae X.env) :: starEach es X.env := by rfl) : PA X (ae :: es) (tAJ X.K i a d fs (fCons fa fr)) :=
  pa_imp (pa_cons ha hr he) fun σ H Q ⟨ρ, m, F, α, W, R, J, p⟩ =>
    tPJ_bind W R J p fun d m1 F1 α1 H1 x e1 W1 R1 J1 rx p1 => tAJ_bind W1 R1 J1 p1 fun ds m2 F2 α2 H2 ys e2 W2 R2 J2 ry p2 => p2.here W2 (.cons (rx.mono W1.nf e2) ry)
theorem pj_tup {kk} (h : PA X es (tAJ X.K i a d fs fr)) : PE X (.Tuple es kk pos) (tPJ X.K i a d fs (fTup fr)) :=
  pe_imp (pe_tup h) fun σ H Q ⟨ρ, m, F, α, W, R, J, p⟩ => tAJ_bind W R J p fun d m1 F1 α1 H1 x e1 W1 R1 J1 rx p1 => by
    unfold oTup at p1
    split at p1
    · rename_i hz
      exact ⟨by rw [← rx.length]; exact fits_ok hz, fun p hp => p1.mkT W1 rx hp⟩
    · exact p1.elim
theorem pj_lst (c : Bool) (h : PA X es (tAJ X.K i a d fs fr)) : PE X (.List es pos) (tPJ X.K i a d fs (fLst c fr)) :=
  pe_imp (pe_lst h) fun σ H Q ⟨ρ, m, F, α, W, R, J, p⟩ => tAJ_bind W R J p fun d m1 F1 α1 H1 x e1 W1 R1 J1 rx p1 => by
    unfold oLst at p1
    split at p1
    · rename_i hz
      exact ⟨by rw [← rx.length]; exact fits_ok hz, fun p hp => p1.mkL W1 rx hp⟩
    · exact p1.elim
theorem pj_one {op} (h : PE X ae (tPJ X.K i a d fs fa)) : PE X (.BoolOp op [ae] pos) (tPJ X.K i a d fs fa) := pe_one h
theorem pj_andV (h : PE X ae (tPJ X.K i a d fs fa)) (h2 : PE X (.BoolOp .And (be :: rest) pos) (tPJ X.K i a d fs fb)) : PE X (.BoolOp .And (ae :: be :: rest) pos) (tPJ X.K i a d fs (fAndV fa fb)) :=
  pe_imp (pe_andT h h2) fun σ H Q ⟨ρ, m, F, α, W, R, J, p⟩ => tPJ_bind W R J p fun d m1 F1 α1 H1 x e1 W1 R1 J1 rx p1 => by
    split at p1
    · rename_i hb; exact ⟨true, tru_of W1 rx hb, by rw [if_pos rfl]; exact ⟨ρ, m1, F1, α1, W1, R1, J1, p1⟩⟩
    · rename_i hb; exact ⟨false, tru_of W1 rx hb, by rw [if_neg Bool.false_ne_true]; exact p1.here W1 rx⟩
    · exact p1.elim
theorem pj_orV (h : PE X ae (tPJ X.K i a d fs fa)) (h2 : PE X (.BoolOp .Or (be :: rest) pos) (tPJ X.K i a d fs fb)) : PE X (.BoolOp .Or (ae :: be :: rest) pos) (tPJ X.K i a d fs (fOrV fa fb)) :=
  pe_imp (pe_orT h h2) fun σ H Q ⟨ρ, m, F, α, W, R, J, p⟩ => tPJ_bind W R J p fun d m1 F1 α1 H1 x e1 W1 R1 J1 rx p1 => by
    split at p1
    · rename_i hb; exact ⟨true, tru_of W1 rx hb, by rw [if_pos rfl]; exact p1.here W1 rx⟩
    · rename_i hb; exact ⟨false, tru_of W1 rx hb, by rw [if_neg Bool.false_ne_true]; exact ⟨ρ, m1, F1, α1, W1, R1, J1, p1⟩⟩
    · exact p1.elim
theorem pj_tru (h : PE X ae (tPJ X.K i a d fs fa)) (he : ∀ whole, isTrue ae X.env whole = (do let v ← whole; standAt ae.pos; holding [v] (truthy v)) := by intro _; rfl) : PT X ae (tTJ X.K i a d fs (fTru fa)) :=
  pt_imp (pt_truth h he) fun σ H Q ⟨ρ, m, F, α, W, R, J, p⟩ => tPJ_bind W R J p fun d m1 F1 α1 H1 x e1 W1 R1 J1 rx p1 => by
    split at p1
    · rename_i b hb
      exact ⟨b, tru_of W1 rx hb, p1.here W1 rfl⟩
    · exact p1.elim
theorem pj_not (h : PT X ae (tTJ X.K i a d fs ta)) : PT X (.UnaryOp .Not ae pos) (tTJ X.K i a d fs (fNot ta)) :=
  pt_imp (pt_not h) fun σ H Q ⟨ρ, m, F, α, W, R, J, p⟩ => tTJ_bind W R J p fun d m1 F1 α1 H1 e1 W1 R1 J1 p1 => p1.here W1 rfl
theorem pj_and1 (h : PT X ae (tTJ X.K i a d fs ta)) : PW X (.BoolOp .And [ae] pos) (tTJ X.K i a d fs ta) := pw_and1 h
theorem pj_or1 (h : PT X ae (tTJ X.K i a d fs ta)) : PW X (.BoolOp .Or [ae] pos) (tTJ X.K i a d fs ta) := pw_or1 h
theorem pj_and (h : PT X ae (tTJ X.K i a d fs ta)) (h2 : PW X (.BoolOp .And (be :: rest) pos) (tTJ X.K i a d fs tb)) : PW X (.BoolOp .And (ae :: be :: rest) pos) (tTJ X.K i a d fs (fAnd ta tb)) :=
  pw_imp (pw_and h h2) fun σ H Q ⟨ρ, m, F, α, W, R, J, p⟩ => tTJ_bind W R J p fun d m1 F1 α1 H1 e1 W1 R1 J1 p1 => by
    cases d with
    | true => rw [if_pos rfl] at p1 ⊢; exact ⟨ρ, m1, F1, α1, W1, R1, J1, p1⟩
    | false => rw [if_neg Bool.false_ne_true] at p1 ⊢; exact p1.here W1 rfl
theorem pj_or (h : PT X ae (tTJ X.K i a d fs ta)) (h2 : PW X (.BoolOp .Or (be :: rest) pos) (tTJ X.K i a d fs tb)) : PW X (.BoolOp .Or (ae :: be :: rest) pos) (tTJ X.K i a d fs (fOr ta tb)) :=
  pw_imp (pw_or h h2) fun σ H Q ⟨ρ, m, F, α, W, R, J, p⟩ => tTJ_bind W R J p fun d m1 F1 α1 H1 e1 W1 R1 J1 p1 => by
    cases d with
    | true => rw [if_pos rfl] at p1 ⊢; exact p1.here W1 rfl
    | false => rw [if_neg Bool.false_ne_true] at p1 ⊢; exact ⟨ρ, m1, F1, α1, W1, R1, J1, p1⟩
theorem pj_outs {fe : FE} {k : P → M → Out} {G : VK} {D : Ends} {σ : St} {H : Hp} {ρ m F α} (W : Wk X.K F α m H) (R : EnvR X.K F α H ρ σ) (J : JJ X.K i a d fs F α H σ) (h : PostS X.K ((fe ρ m).outs ρ k) F α H D (fun _ => E0))
    (hk : ∀ e m1 F1 α1 H1 x, Ex F α H F1 α1 H1 → Wk X.K F1 α1 m1 H1 → EnvR X.K F1 α1 H1 ρ σ → JJ X.K i a d fs F1 α1 H1 σ → Rp X.K F1 α1 H1 e x → PostS X.K (k e m1) F1 α1 H1 D (fun _ => E0) → G x H1) : tPJ X.K i a d fs fe σ H G :=
  ⟨ρ, m, F, α, W, R, J, Post.outs W R h fun e m1 F1 α1 H1 x ex W1 R1 r p => hk e m1 F1 α1 H1 x ex W1 R1 (J.mono W.nf ex) r p⟩
theorem pj_ret (h : PE X ae (tPJ X.K i a d fs fa)) : PS X (.Return (some ae) pos) (tSJ X.K i a d fs (fRet fa)) :=
  ps_imp (ps_ret h) fun D σ H ⟨ρ, m, F, α, W, R, J, p⟩ => pj_outs W R J p fun d m1 F1 α1 H1 x e1 W1 R1 J1 rx p1 => p1 _ _ _ _ Ex.refl W1 rx
theorem pj_if {c : Expr} {tc : FT} (hc : PT X c (tTJ X.K i a d fs tc)) (ha : PSs X sa (tS X.K (fun _ => E0) f)) (hb : PSs X sb (tS X.K (fun _ => E0) g)) : PS X (.If c sa sb pos) (tSJ X.K i a d fs (fIfS tc f g)) :=
  ps_imp (ps_if hc ha hb) fun D σ H ⟨ρ, m, F, α, W, R, J, p⟩ => ⟨ρ, m, F, α, W, R, J, Post.outs W R p fun b m1 F1 α1 H1 x e1 W1 R1 r p1 => by
    cases r
    cases b with
    | true => rw [if_pos rfl] at p1 ⊢; exact ⟨ρ, m1, F1, α1, W1, R1, p1⟩
    | false => rw [if_neg Bool.false_ne_true] at p1 ⊢; exact ⟨ρ, m1, F1, α1, W1, R1, p1⟩⟩
theorem pjs_one (h : PS X st (tSJ X.K i a d fs f)) : PSs X [st] (tSJ X.K i a d fs f) := pss_one h
theorem pjs_cons (h : PS X st (tSJ X.K i a d fs f)) (h2 : PSs X sts (tS X.K (fun _ => E0) g)) : PSs X (st :: sts) (tSJ X.K i a d fs (fSeq f g)) := pss_imp (pss_cons h h2) fun D σ H w => by
  obtain ⟨ρ, m, F, α, W, R, J, p⟩ := w
  refine ⟨ρ, m, F, α, W, R, J, ?_⟩
  unfold fSeq at p
  cases h : f ρ m with
  | nx ρ1 m1 => rw [h] at p; exact fun σ1 F1 α1 H1 e1 W1 R1 => ⟨ρ1, m1, F1, α1, W1, R1, p.mono e1⟩
  | rt d m1 => rw [h] at p; exact p
  | bk ρ1 m1 => rw [h] at p; exact p
  | ct ρ1 m1 => rw [h] at p; exact p
  | exc c fs ρ1 m1 => rw [h] at p; exact p
  | stuck => rw [h] at p; exact p
theorem isE_of {K : PySem.W.Frag} {c : Str} {cv : V} {cw : Value} {t : Option Bool} {σ H Q} (hk : ∀ b, t = some b → ExcC K (He.ga K c) ∧ PySem.W.kitOne K (.ref (He.ga K c)) cw = some b) (hcv : ∀ u, RelV cv u → u = cw) (w : tPJ K i a d fs (fIsE t fs) σ H Q) :
    tCB (rIsZ K a (.ref (He.ga K c)) d) (tCons (tVar i) (tCons (tC cv) tNil)) σ H Q := by
  obtain ⟨ρ, m, F, α, W, R, J, p⟩ := w
  unfold fIsE at p
  split at p
  · rename_i b
    obtain ⟨h1, h2⟩ := hk b rfl
    have hd : d = none := by
      cases d with
      | none => rfl
      | some d => exact absurd rfl J.2.1
    exact ⟨.ref a, J.1, _, rfl, hd, h1, cv, cw, b, rfl, hcv, h2, p.here W (.bl b)⟩
  · exact p.elim
end
/-! ### try -/
section
variable {X : Cx} {x n : Str} {cv : Value} {i : Nat} {body suite : List Stmt} {b₀ : Stmt} {np pos pos' : Pos} {Wout : WX} {ct : Str → Option Bool} {fb : FS} {fh : Str → List (Str × P) → FS}
theorem pp_tryAs (hs : X.stack = X.env :: X.outer) (hf : X.env.frame = some X.env.locals) (hN : X.N.Nodup) (hi : X.N[i]? = some n) (hln : X.env.kindOf n = some .local) (hc : Names X x cv) (tk : Takes X Wout)
    (hct : ∀ c b, ct c = some b → PySem.W.exmOne X.K (.ref (He.ga X.K c)) cv = some b)
    (hb : ∀ (W : WX) (pn : List (Addr × Obj)) (xe : Value → Shared → Prop), Takes (X.tr pn xe) W → PassesOwn (model X.prog X.w) X.A X.env xe → PSs (X.tr pn xe) body (tS X.K (WE W) fb))
    (hsu : ∀ (a : Addr) (oe : Obj) (c : Str) (fs : List (Str × P)) (d : Option Addr) (pn : List (Addr × Obj)), Zc (.ref (He.ga X.K c)) d oe → (∃ vs, oe.data = .fields vs) → PSs (X.suite a ((a, oe) :: pn)) (b₀ :: suite) (tSJ X.K i a d fs (fh c fs))) :
    PS X (.Try body [.ExceptHandler (some (.Name x np)) (some n) (b₀ :: suite) pos'] [] [] pos) (tS X.K (WE Wout) (fTry ct (some i) fb fh)) := by
  refine ps_imp (ps_try_as (tb := fun W => tS X.K (WE W) fb) (ts := fun a cls d => fun D σ H => ∃ c fs, cls = .ref (He.ga X.K c) ∧ tSJ X.K i a d fs (fh c fs) D σ H) hs hf hN hi hln hc tk hb fun a oe cls d pn hz hfl => ⟨fun pins s σ H D I ⟨c, fs, e, w⟩ => ?_⟩) fun D σ H ⟨ρ, m, F, α, W, R, p⟩ => ⟨ρ, m, F, α, W, R, ?_⟩
  · subst e
    exact (hsu a oe c fs d pn hz hfl).run pins s σ H D I w
  · unfold fTry at p
    cases h : fb ρ m with
    | nx ρ1 m1 => rw [h] at p; exact p
    | rt d m1 => rw [h] at p; exact p
    | bk ρ1 m1 => rw [h] at p; exact p
    | ct ρ1 m1 => rw [h] at p; exact p
    | stuck => rw [h] at p; exact p
    | exc c fs ρ1 m1 =>
      rw [h] at p
      intro σ1 F1 α1 H1 dd e1 W1 R1 x1
      show wAs _ _ _ _ _ _ _ _ _ _
      simp only at p
      cases hq : ct c with
      | none => rw [hq] at p; exact p.elim
      | some b =>
        refine ⟨b, hct c b hq, fun hbt a ha => ?_, fun hbf => ?_⟩
        · subst hbt
          rw [hq] at p
          simp only at p
          split at p
          rotate_left
          · exact p.elim
          rename_i hl
          refine ⟨c, fs, rfl, ρ1.set i none, m1, F1, α1, W1, R1.unset i _, ⟨?_, x1⟩, ?_⟩
          · rw [List.getElem?_set_self]
            rw [← R1.1]; exact hl
          · cases hh : fh c fs (ρ1.set i none) m1 with
            | nx ρ2 m2 => rw [hh] at p; exact fun σ2 F2 α2 H2 e2 W2 R2 => p _ _ _ _ (e1.trans e2) W2 (R2.unset i none)
            | rt d m2 => rw [hh] at p; exact fun v F2 α2 H2 e2 W2 R2 => p _ _ _ _ (e1.trans e2) W2 R2
            | bk ρ2 m2 => rw [hh] at p; exact fun σ2 F2 α2 H2 e2 W2 R2 => p _ _ _ _ (e1.trans e2) W2 (R2.unset i none)
            | ct ρ2 m2 => rw [hh] at p; exact fun σ2 F2 α2 H2 e2 W2 R2 => p _ _ _ _ (e1.trans e2) W2 (R2.unset i none)
            | exc => rw [hh] at p; exact p.elim
            | stuck => rw [hh] at p; exact p.elim
        · subst hbf
          rw [hq] at p
          exact p σ1 F1 α1 H1 dd e1 W1 R1 x1
theorem pp_tryOnly (hs : X.stack = X.env :: X.outer) (hf : X.env.frame = some X.env.locals) (hc : Names X x cv) (tk : Takes X Wout) {fh : FS}
    (hct : ∀ c b, ct c = some b → PySem.W.exmOne X.K (.ref (He.ga X.K c)) cv = some b)
    (hb : ∀ (W : WX) (pn : List (Addr × Obj)) (xe : Value → Shared → Prop), Takes (X.tr pn xe) W → PassesOwn (model X.prog X.w) X.A X.env xe → PSs (X.tr pn xe) body (tS X.K (WE W) fb))
    (hsu : ∀ (a : Addr) (oe : Obj) (cls : Value) (d : Option Addr) (pn : List (Addr × Obj)), Zc cls d oe → (∃ vs, oe.data = .fields vs) → PSs (X.suite a ((a, oe) :: pn)) (b₀ :: suite) (tS X.K (fun _ => E0) fh)) :
    PS X (.Try body [.ExceptHandler (some (.Name x np)) none (b₀ :: suite) pos'] [] [] pos) (tS X.K (WE Wout) (fTry ct none fb (fun _ _ => fh))) := by
  refine ps_imp (ps_try_only (tb := fun W => tS X.K (WE W) fb) (ts := fun a cls d => tS X.K (fun _ => E0) fh) hs hf hc tk hb hsu) fun D σ H ⟨ρ, m, F, α, W, R, p⟩ => ⟨ρ, m, F, α, W, R, ?_⟩
  unfold fTry at p
  cases h : fb ρ m with
  | nx ρ1 m1 => rw [h] at p; exact p
  | rt d m1 => rw [h] at p; exact p
  | bk ρ1 m1 => rw [h] at p; exact p
  | ct ρ1 m1 => rw [h] at p; exact p
  | stuck => rw [h] at p; exact p
  | exc c fs ρ1 m1 =>
    rw [h] at p
    intro σ1 F1 α1 H1 dd e1 W1 R1 x1
    show wOnly _ _ _ _ _ _ _ _ _
    simp only at p
    cases hq : ct c with
    | none => rw [hq] at p; exact p.elim
    | some b =>
      refine ⟨b, hct c b hq, fun hbt a ha => ?_, fun hbf => ?_⟩
      · subst hbt
        rw [hq] at p
        simp only at p
        refine ⟨ρ1, m1, F1, α1, W1, R1, ?_⟩
        cases hh : fh ρ1 m1 with
        | nx ρ2 m2 => rw [hh] at p; exact p.mono e1
        | rt d m2 => rw [hh] at p; exact p.mono e1
        | bk ρ2 m2 => rw [hh] at p; exact p.mono e1
        | ct ρ2 m2 => rw [hh] at p; exact p.mono e1
        | exc => rw [hh] at p; exact p.elim
        | stuck => rw [hh] at p; exact p.elim
      · subst hbf
        rw [hq] at p
        exact p σ1 F1 α1 H1 dd e1 W1 R1 x1
end
end
/-! N12 -/
section
open PySem PySem.Spec PyProof.Rows
theorem ff_base {h base base' : Heap} (k : ∀ b, base.get? b = none → base'.get? b = none) : ∀ {l : List PySem.Env}, h.FunFrames base l → h.FunFrames base' l
  | [], _ => trivial
  | _ :: _, ⟨hk, ⟨L, o, hf, hb, ho, hd⟩, hr⟩ => ⟨hk, ⟨L, o, hf, k _ hb, ho, hd⟩, ff_base k hr⟩
theorem tz_but {h h' base base' : Heap} {e C : Addr} {Z : Obj → Prop} {fl : Value} {m : Str → Option Value} (x : HandSPX.TracedZ h base e Z fl) (hn : h.Ns C m) (hs : Heap.SameBut C h h') (k : ∀ b, base.get? b = none → base'.get? b = none) : HandSPX.TracedZ h' base' e Z fl := by
  obtain ⟨oe, vs, T, oT, ts, he, hz, hd, h1, hnT, hTe, hT, hdT, h3⟩ := x
  obtain ⟨oL, es, ep, hoL, hdL, _⟩ := hn
  have ne : ∀ {b : Addr} {o : Obj} {vs : Array Value}, h.get? b = some o → o.data = .fields vs → b ≠ C := fun {b o vs} hb hd q => by
    rw [q, hoL] at hb; cases hb; rw [hdL] at hd; cases hd
  exact ⟨oe, vs, T, oT, ts, (hs.2 e (ne he hd)).trans he, hz, hd, h1, k _ hnT, hTe, (hs.2 T (ne hT hdT)).trans hT, hdT, h3⟩
/-- the state without the exception that a call let out -/
theorem flown {X : Cx} {pins : List (Addr × Obj)} {σ : St} {H : Hp} {s s' : Shared} {E : XK} {u : Value} (I : Inv X pins σ H s) (c : L2.CX X.prog X.w X.stack H s E u s') :
    ∃ (a : Addr) (B G : Heap) (H' : Hp) (cls : Value) (d : Option Addr), u = .ref a ∧ Inv X pins σ H' { s with heap := G, gens := s'.gens, drawn := s'.drawn, toks := s'.toks } ∧ (∀ b o, G.get? b = some o → b ∉ frs X.stack → B.get? b = some o) ∧
      (∀ b o, G.get? b = some o → s'.heap.get? b = some o) ∧ HandSPX.FlyingZ B X.stack a (Zc cls d) s'.heap ∧ H' a = none ∧ s'.os = s.os ∧ AllBare s'.gens ∧ E cls d H' := by
  obtain ⟨a, B, H', cls, d, rfl, fl, hok, ub, na, os, ag, hE⟩ := c
  obtain ⟨G, gy, gn⟩ := restrict s'.heap fun b => (B.get? b).isSome || decide (b ∈ frs X.stack)
  have toG : ∀ b o, B.get? b = some o → G.get? b = some o := fun b o e => by
    have z := fl.1 b o e
    rw [← z]
    exact gy b (by simp [e])
  have frG : ∀ b, b ∈ frs X.stack → G.get? b = s'.heap.get? b := fun b hb => gy b (by simp [hb])
  have ofG : ∀ b o, G.get? b = some o → s'.heap.get? b = some o ∧ ((∃ o', B.get? b = some o') ∨ b ∈ frs X.stack) := fun b o e => by
    by_cases q : ((B.get? b).isSome || decide (b ∈ frs X.stack)) = true
    · refine ⟨(gy b q).symm.trans e, ?_⟩
      rcases Bool.or_eq_true_iff.mp q with z | z
      · exact .inl (Option.isSome_iff_exists.mp z)
      · exact .inr (of_decide_eq_true z)
    · rw [gn b (Bool.eq_false_iff.mpr q)] at e; cases e
  have slots : ∀ b o, s.heap.get? b = some o → b ∈ frs X.stack → ∃ sl, G.get? b = some { o with slots := sl } := fun b o e hb => let ⟨sl, q⟩ := ub.slot b o e hb; ⟨sl, (frG b hb).trans q⟩
  refine ⟨a, B, G, H', cls, d, rfl, I.call (ch := []) ?_ (hok.kept toG) ag (fun _ z => nomatch z), fun b o e hb => ?_, fun b o e => (ofG b o e).1, fl, na, os, ag, hE⟩
  · constructor
    · exact fun b o e n hb _ => toG b o (ub.keep b o e n hb)
    · exact fun b o e n hb _ => slots b o e hb
    · exact fun b o e n _ => ub.free b o e n
    · intro b o e _
      by_cases hb : b ∈ frs X.stack
      · exact ⟨_, (slots b o e hb).choose_spec⟩
      · exact let ⟨o', q⟩ := ub.there b o e hb; ⟨o', toG b o' q⟩
    · exact ub.tups
    · exact ub.frzs
    · exact ub.tbls
  · obtain ⟨e', h⟩ := ofG b o e
    rcases h with ⟨o', q⟩ | h
    · have z := fl.1 b o' q
      rw [e'] at z; cases z
      exact q
    · exact absurd h hb
/-- the context of a comprehension's block, what it may raise told -/
abbrev blkX (X : Cx) (s : Shared) (H : Hp) (scope : Scope) (cenv : PySem.Env) (fp : List Addr) (xe : Value → Shared → Prop) : Cx := { X with s_0 := s, H_0 := H, env := cenv, outer := X.stack, ex := fp, fn := fun x => scope.names.lookup x == some .cell, pn := [], xe := xe }
abbrev ceX (X : Cx) (ce : PySem.Env) : Value → Shared → Prop := notedBy (model X.prog X.w) X.A ce (CompFails (model X.prog X.w) X.A X.xe ce)
theorem comp_flies {X : Cx} {scope : Scope} {ce : PySem.Env} {fp : List Addr} {pins pins8 : List (Addr × Obj)} {σ σ8 : St} {H3 H8 : Hp} {s3 s8 s' : Shared} {E : XK} {u : Value} {xe : Value → Shared → Prop} (hs : X.stack = X.env :: X.outer) (hf : X.env.frame = some X.env.locals) (tk : Takes X (fun cls d _ H => E cls d H))
    (I3 : Inv X pins σ H3 s3) (f3 : ∀ b ∈ fp, FpOk X pins H3 b) (cL : ce.locals = s3.heap.objs.size) (cf : ce.frame = X.env.frame) (I : Inv (blkX X s3 H3 scope ce fp xe) pins8 σ8 H8 s8) (c : L2.CX X.prog X.w X.stack H8 s8 E u s') : ceX X ce u s' := by
  obtain ⟨a, B, G, H', cls, d, rfl, IG, kG, oG, fl, na, os, ag, hE⟩ := flown I c
  have hfr : X.A.frames = some (X.env :: X.outer) := by rw [I3.ok.frames, hs]
  have IX : Inv X pins σ H' { s8 with heap := G, gens := s'.gens, drawn := s'.drawn, toks := s'.toks } :=
    I3.call' (ch := fp) IG.os IG.base IG.hok IG.bare fun b hb => let z := f3 b hb; ⟨z.2.2.2.1, z.2.1, z.2.2.2.2.1, z.2.2.2.2.2⟩
  have nC : H' s3.heap.objs.size = none := by
    have z : H' ce.locals = none := IG.free
    rw [cL] at z; exact z
  have fC := I3.fpOk (Nat.le_refl _) nC
  obtain ⟨m, hm, _⟩ := IG.loc
  have hm : G.Ns ce.locals m := hm
  obtain ⟨oC, esC, epC, hoC, rC⟩ := hm
  have hmS : s'.heap.Ns ce.locals m := ⟨oC, esC, epC, oG _ _ hoC, rC⟩
  show wpAny _ X.A (noteFrame (.ref a) ce) _ _ s'
  rw [noteFrame_env _ cf]
  rw [hs] at fl
  refine HandSPX.looks_onZ Zc.steady hfr hf fl fun h1 held up1 => ?_
  have hm1 : h1.Ns ce.locals m := hmS.upToSlots up1
  refine ⟨m, hm1, fun h2 m2 hn2 sb => ?_⟩
  obtain ⟨st, hen, ff, tz⟩ := held
  have k2 : ∀ b, B.get? b = none → (PySem.W.hideAll B [ce.locals]).get? b = none := fun b hb => by
    cases q : (PySem.W.hideAll B [ce.locals]).get? b with
    | none => rfl
    | some o => rw [PySem.W.of_hideAll _ q] at hb; cases hb
  have tz2 := tz_but tz hm1 sb k2
  have ff2 := ff_base k2 (Heap.FunFrames.sameBut sb hn2 ff)
  have neC : ∀ {h : Heap} {b : Addr} {o : Obj}, (PySem.W.hideAll h [ce.locals]).get? b = some o → b ≠ ce.locals := fun {h b o} hb q => by
    rw [q, PySem.W.hideAll_none _ (List.mem_singleton.mpr rfl)] at hb; cases hb
  have st2 : (PySem.W.hideAll B [ce.locals]).StaysIn h2 := fun b o hb => (sb.2 b (neC hb)).trans (st b o (PySem.W.of_hideAll _ hb))
  unfold PySem.passOn
  have tzc := tz2
  obtain ⟨oe, vs, T, oT, ts, he, hz, hd, hv1, _⟩ := tzc
  refine wpAny_bind (wpAny_field he hd hv1 ?_)
  rw [if_neg (show ¬ ((Value.ref T == Value.none) = true) from by simp)]
  rw [cf, hf]
  refine wpAny_bind (HandSPX.setFlight_onZ (base := PySem.W.hideAll B [ce.locals]) (l := X.env :: X.outer) ⟨st2, k2 _ hen, ff2, tz2⟩ fun h3 held3 up3 => wpAny_throw (tk _ _ ?_))
  refine ⟨a, PySem.W.hideAll B [ce.locals], { s8 with heap := PySem.W.hideAll G [ce.locals], gens := s'.gens, drawn := s'.drawn, toks := s'.toks }, pins, σ, H', cls, d, rfl, ?_, fun b o e hb => ?_, fun b o e hnf => ?_, .inr (.inr (by rw [hs]; exact held3)), na, os, ag, hE⟩
  · obtain ⟨f0, f1, f2, f4, f5, f6⟩ := fC
    refine IX.turned (it := s3.heap.objs.size) (t' := s'.toks) (fun b o hb e => PySem.W.hideAll_get _ e fun z => hb ?_) f0 (fun q => f1 q) f4 f5 f6
    rw [← cL]; exact List.mem_singleton.mp z
  · exact PySem.W.hideAll_get _ (kG b o (PySem.W.of_hideAll _ e) hb) fun z => neC e (List.mem_singleton.mp z)
  · have hb := neC e
    obtain ⟨sl, q⟩ := up1 b o (oG b o (PySem.W.of_hideAll _ e)) hnf
    obtain ⟨sl3, q3⟩ := up3 b _ ((sb.2 b hb).trans q) hnf
    exact ⟨sl3, q3⟩
end
/-! N13 -/
section
open PySem PySem.Spec PyProof.Rows
section
variable {X : Cx}
theorem pe_lcX {E : XK} {elt tg iter : Expr} {ifs : List Expr} {scope : Scope} {own : List (Str × Nat)} {pos : Pos} {wi : TI} {g : TG} {tt : TT} {te : TE} (hc : X.calm = true) (hN : X.N.Nodup) (hst : X.stack = X.env :: X.outer) (hfr : X.env.frame = some X.env.locals)
    (tk : Takes X (fun cls d _ H => E cls d H)) (hi : PI X tg iter wi) (ok : BlkOk X.N X.env.scope scope own)
    (hg : ∀ s H C cl fp xe, PG (blkX X s H scope (compEnvC scope cl C X.env) fp xe) tg g) (ht : ∀ s H C cl fp xe, PTs (blkX X s H scope (compEnvC scope cl C X.env) fp xe) ifs tt)
    (he : ∀ s H C cl fp xe, (∀ σ, PassesAt (L2.CX X.prog X.w) (blkX X s H scope (compEnvC scope cl C X.env) fp xe) σ E) → PE (blkX X s H scope (compEnvC scope cl C X.env) fp xe) elt te) (hs : ∀ x, foldedSetIterable iter X.env x = pure x := by intro _; rfl) :
    PE X (.ListComp elt [⟨tg, iter, ifs, 0⟩] scope pos) (tLc wi g tt te (own.map (·.2))) := by
  refine ⟨fun pins s σ H Q I h => ?_⟩
  rw [eval_ListComp]
  have fre : ∀ y ∈ scope.names, y.2 = .free → ∃ c, X.env.cells.lookup y.1 = some c := fun y hy e => I.ok.has _ ((ok.free y hy e).elim .inl .inr)
  refine comprehension_at (use := none) rfl hs (closure_ok fre) ok.kind (fun y hy e => by rw [ok.uniq y hy, e]) (thn (hi.run pins s σ H _ I h) fun xv t1 hx => thn hx fun itv t2 h2 => ?_)
  obtain ⟨it, fp, tn, J, H2, e, I2, T, st2, f2, q⟩ := h2
  subst e
  refine wpAny_newObj_type (newEnv_comp ?_) (by show 0 ≤ sizeLine; decide)
  generalize hD : t2.heap.objs.size = D
  obtain ⟨W, ⟨m0, w0⟩, turn⟩ := q D (I2.hok.fresh (Nat.le_of_eq hD))
  generalize ht3 : ({ t2 with heap := t2.heap.push { cls := .type "list", data := .seq ([] : List Value).toArray } } : Shared) = t3
  have I3 : Inv X pins σ (upd H2 D (.lst [])) t3 := by
    subst ht3
    exact I2.laid (t' := t2.toks) (fun b o e => Heap.get?_push_of_some _ e) (Nat.le_of_eq hD) ⟨Nat.zero_le _, [], 0, .nil, by rw [← hD]; exact Heap.get?_push_size _ rfl⟩
  have h3 : t3.heap = t2.heap.push { cls := .type "list", data := .seq ([] : List Value).toArray } := by subst ht3; rfl
  have f3 : ∀ b ∈ fp, FpOk X pins (upd H2 D (.lst [])) b ∧ b < t3.heap.objs.size := fun b hb => by
    obtain ⟨o, e, _⟩ := T.obj _ _ st2 b hb
    have lt := Heap.lt_size e
    refine ⟨⟨?_, (f2 b hb).2⟩, by rw [h3, Heap.size_push]; exact Nat.lt_succ_of_lt lt⟩
    rw [upd_ne (by rw [← hD]; exact Nat.ne_of_lt lt)]
    exact (f2 b hb).1
  have st3 : tn 0 t3.heap := T.keep _ _ _ st2 fun b _ o e => by rw [h3]; exact Heap.get?_push_of_some _ e
  generalize hcl : cellsFrom (t3.heap.objs.size + 1) scope.names (cloFrom X.env.cells scope.names []) = cl
  have I4 := block_start I3 ok hN f3
  rw [hcl] at I4
  generalize hH3 : upd H2 D (.lst []) = H3 at I3 I4 w0 f3
  generalize hce : compEnvC scope cl t3.heap.objs.size X.env = ce at I4
  have cL : ce.locals = t3.heap.objs.size := by subst hce; rfl
  have cf : ce.frame = X.env.frame := by subst hce; rfl
  have fls : ∀ (xe : Value → Shared → Prop), (∀ u s', ceX X ce u s' → xe u s') → ∀ σ', PassesAt (L2.CX X.prog X.w) (blkX X t3 H3 scope ce fp xe) σ' E := fun xe k σ' pins' H' s' u s'' I' c => k _ _ (comp_flies hst hfr tk I3 (fun b hb => (f3 b hb).1) cL cf I' c)
  have pg := hg t3 H3 t3.heap.objs.size cl fp (ceX X ce)
  have pt := ht t3 H3 t3.heap.objs.size cl fp (ceX X ce)
  have pe := he t3 H3 t3.heap.objs.size cl fp (ceX X ce)
  rw [hce] at pg pt pe
  have pe := pe (fls _ fun _ _ z => z)
  generalize ht4 : ({ t3 with heap := pushCells (t3.heap.push { cls := .type "dict", data := .dict #[] }) scope.names } : Shared) = t4 at I4
  have I4 : Inv (blkX X t3 H3 scope ce fp (ceX X ce)) [] (wipe σ (own.map (·.2))) H3 t4 := I4.wish _
  show codeAny _ _ (.compStart (.ListComp elt [⟨tg, iter, ifs, 0⟩] scope pos) 0 (.ref it) (.ref D) (compEnvC scope cl t3.heap.objs.size X.env)) (compEnds (model X.prog X.w) X.A X.xe none (EP X pins σ Q) (.ref D) (compEnvC scope cl t3.heap.objs.size X.env)) t4
  rw [hce]
  have st4 : tn 0 t4.heap := T.keep _ _ _ st3 fun b _ o e => by subst ht4; exact pushCells_keeps _ _ _ _ (Heap.get?_push_of_some _ e)
  have okp : ∀ {σ' : St} {H' : Hp} {s' : Shared}, Inv (blkX X t3 H3 scope ce fp (ceX X ce)) [] σ' H' s' → (∀ b ∈ fp, H' b = none) → ∀ b ∈ fp, FpOk (blkX X t3 H3 scope ce fp (ceX X ce)) [] H' b := fun {σ' H' s'} I' hn b hb =>
    ⟨hn b hb, (I'.ok.exf b hb).1, I'.ok.exfs b hb, .inl hb, fun x c e => (I'.ok.exf b hb).2 x c e, fun p hp => absurd (show p ∈ ([] : List (Addr × Obj)) from hp) List.not_mem_nil⟩
  have loop : codeAny (model X.prog X.w) X.A (.compLoop (.ListComp elt [⟨tg, iter, ifs, 0⟩] scope pos) 0 (.ref it) (.ref D) ce) (compEnds (model X.prog X.w) X.A X.xe none (EP X pins σ Q) (.ref D) ce) t4 := by
    refine compLoop_any (fun n s' => ∃ i H', Inv (blkX X t3 H3 scope ce fp (ceX X ce)) [] (wipe σ (own.map (·.2))) H' s' ∧ tn i s'.heap ∧ (∀ b ∈ fp, H' b = none) ∧ W i n H') ?_ m0 ⟨0, H3, I4, st4, fun b hb => (f3 b hb).1.1, w0⟩
    rintro n t5 ⟨i, H5, I5, st5, n5, w5⟩
    rcases turn i n H5 w5 with ⟨stop, qq⟩ | ⟨go, Nx, hNx, step⟩
    · refine thnF (T.done (blkX X t3 H3 scope ce fp (ceX X ce)) rfl rfl rfl hc i [] t5 _ H5 (fun _ _ => False) I5 (okp I5 n5) st5 stop) fun r t6 ⟨hr, I6⟩ => ?_
      subst hr
      have I7 : Inv X pins σ H5 t6 := I3.call' (ch := fp) I6.os I6.base I6.hok I6.bare fun b hb => let z := (f3 b hb).1; ⟨z.2.2.2.1, z.2.1, z.2.2.2.2.1, z.2.2.2.2.2⟩
      have nC : H5 t3.heap.objs.size = none := by
        have z : H5 ce.locals = none := I6.free
        rwa [cL] at z
      obtain ⟨m, hn, _⟩ := I6.loc
      obtain ⟨z0, z1, z2, z3, z4, z5⟩ := I3.fpOk (Nat.le_refl _) nC
      refine ⟨m, hn, fun h'' sb => ⟨.ref D, H5, I7.turned (t' := t6.toks) (fun b o hb e => (sb.2 b (by rw [cL]; exact hb)).trans e) z0 z1 z3 z4 z5, rfl, qq⟩⟩
    · refine thnF (T.item (blkX X t3 H3 scope ce fp (ceX X ce)) rfl rfl rfl hc i [] t5 _ H5 (fun _ _ => False) I5 (okp I5 n5) st5 go) fun r t6 ⟨u, hr, h6⟩ => ?_
      subst hr
      refine thnF h6 fun _ t7 ⟨x, H7, I7, r7, y7, st7, n7⟩ => ?_
      have I7' := I7.pinned (okp I7 n7) (T.obj _ _ st7)
      refine wpAny_mono (pg.run _ t7 _ H7 x u _ I7' r7 (step x H7 y7)) (fun _ t8 ⟨σ8, H8, I8, hw8, q8⟩ => ?_) fun _ _ z => z
      refine wpAny_mono (pt.run _ t8 σ8 H8 _ I8 q8) (fun b t9 ⟨H9, I9, q9⟩ => ?_) fun _ _ z => z
      have fin : ∀ {s' : Shared} {H' : Hp}, Inv (blkX X t3 H3 scope ce fp (ceX X ce)) ([] ++ pinsAt fp t7.heap) σ8 H' s' → Nx H' → ∃ m, m < n ∧ ∃ i H', Inv (blkX X t3 H3 scope ce fp (ceX X ce)) [] (wipe σ (own.map (·.2))) H' s' ∧ tn i s'.heap ∧ (∀ b ∈ fp, H' b = none) ∧ W i m H' := fun {s' H'} I' nx => by
        obtain ⟨m', hm, w'⟩ := hNx H' nx
        have pin' : ∀ b ∈ fp, ∀ o, t7.heap.get? b = some o → s'.heap.get? b = some o ∧ H' b = none := fun b hb o e => let z := I'.pin (b, o) (List.mem_append_right _ (List.mem_append_right _ (mem_pinsAt hb e))); ⟨z.1, z.2.1⟩
        refine ⟨m', hm, i + 1, H', (I'.unpinned (pins := [])).weak (by rw [← hw8, wipe_length]) (fun j v e => ?_), T.keep _ _ _ st7 fun b hb o e => (pin' b hb o e).1, fun b hb => ?_, w'⟩
        · rw [← hw8] at e; exact (wipe_some e).1
        · exact let ⟨o, e, _⟩ := T.obj _ _ st7 b hb; (pin' b hb o e).2
      cases b with
      | false =>
        rw [if_neg Bool.false_ne_true] at q9 ⊢
        exact fin I9 q9
      | true =>
        rw [if_pos rfl] at q9 ⊢
        refine wpAny_mono (pe.run _ t9 σ8 H9 _ I9 q9) (fun z t10 ⟨yv, H10, I10, r10, acc, hD10, hz10, nx⟩ => ?_) fun _ _ z => z
        exact app_ok (X := blkX X t3 H3 scope ce fp (ceX X ce)) I10 hD10 hz10 r10 fun t11 I11 => fin I11 nx
  exact codeAny_compStart_list loop (T.self X.A 0 _ _ _ st4 loop)
end
/-! ### the plain side -/
noncomputable def lcX (g : Tg) (tt : FT) (te : FE) (chk : List (Nat × List P)) (ρ : Env) : List P → M → Res (List P)
  | [], m => if chkOk m chk then .ok [] m else .stuck
  | x :: xs, m => if chkOk m chk then match g.put x ρ with
    | some ρ1 => (tt ρ1 m).calm.bind fun b m1 => if b = true then (te ρ1 m1).bind fun y m2 => (lcX g tt te chk ρ xs m2).bind fun ys m3 => .ok (y :: ys) m3 else lcX g tt te chk ρ xs m1
    | none => .stuck
    else .stuck
noncomputable def fLcX (cc : Bool) (fi : FI) (g : Tg) (tt : FT) (te : FE) (vs : List Nat) : FE := fun ρ m => (fi ρ m).bind fun s m1 => if fits s.items.length = true then (lcX g tt te s.chk (wipeP ρ vs) s.items m1).bind fun ys m2 => mkL cc ys m2 else .stuck
theorem Post.bindM {β δ γ γ' : Type} {K} {RR : (Addr → Prop) → List Addr → Hp → β → γ → Prop} {R2 : (Addr → Prop) → List Addr → Hp → δ → γ' → Prop} {Q : γ' → Hp → Prop} {G : γ → Hp → Prop} {r : Res β} {k : β → M → Res δ} {F0 α0 H0 F α H} {E : XK}
    (h : Post K R2 (r.bind k) F0 α0 H0 Q E) (e0 : Ex F0 α0 H0 F α H) (hk : ∀ d m1 F1 α1 H1 x, Ex F α H F1 α1 H1 → Wk K F1 α1 m1 H1 → RR F1 α1 H1 d x → Post K R2 (k d m1) F0 α0 H0 Q E → G x H1) : Post K RR r F α H G E := by
  cases r with
  | ok d m => exact fun v F' α' H' e W R => hk d m F' α' H' v e W R h
  | exc c fs m => exact fun F' α' H' dd e W x => h F' α' H' dd (e0.trans e) W x
  | stuck => exact h
section
variable {X : Cx} {E E' : St → XK} {ff : FI} {t : Tg} {ft : FT} {fe : FE} {vs : List Nat}
theorem lcX_of {K : PySem.W.Frag} {cc : Bool} {ex : XK} {σ H Q} (hv : ∀ j ∈ t.slots, j ∈ vs) (w : tP K (fun _ => ex) (fLcX cc ff t ft fe vs) σ H Q) : tLc (tI K (fun _ => ex) ff) (t.rd K) (tT K E' ft) (tP K (fun _ => ex) fe) vs σ H Q := by
  obtain ⟨ρ, m, F, α, W, R, p⟩ := w
  refine ⟨ρ, m, F, α, W, R, Post.bind p fun s m1 F1 α1 H1 J e1 W1 hJ p1 D hD => ?_⟩
  obtain ⟨hfit, p1⟩ := iteG p1
  have hn : s.items.length ≤ 100000 := of_decide_eq_true hfit
  have R1 : EnvR K F1 α1 H1 (wipeP ρ vs) (L2.wipe σ vs) := (R.mono W.nf e1).wipe vs
  have hDF : ¬ F1 D := fun q => by obtain ⟨o, ho⟩ := W1.fr D q; rw [hD] at ho; cases ho
  have hDα : D ∉ α1 := fun q => by obtain ⟨_, _, o, _, _, ho, _⟩ := W1.has q; rw [hD] at ho; cases ho
  refine ⟨fun i k H' => k = s.items.length - i ∧ i ≤ s.items.length ∧ ∃ acc av m' F' α', acc.length ≤ i ∧ Ex F1 α1 H1 F' α' H' ∧ Wk K F' α' m' H' ∧ H' D = some (.lst av) ∧ ¬ F' D ∧ D ∉ α' ∧ Rps K F' α' H' acc av ∧
      Post K (VR K) ((lcX t ft fe s.chk (wipeP ρ vs) (s.items.drop i) m').bind fun ys m2 => mkL cc (acc ++ ys) m2) F1 α1 H1 Q ex, ⟨s.items.length, by simp, Nat.zero_le _, [], [], m1, F1, α1, Nat.le_refl _, ?_, ?_, upd_same, hDF, hDα, .nil, by rw [List.drop_zero]; exact p1⟩, ?_⟩
  · exact ⟨fun _ h => h, ⟨[], (List.append_nil _).symm⟩, fun a u e _ => by rw [upd_ne (ne_of_none e hD)]; exact e, fun _ h n => absurd h n, fun _ _ h _ _ => h⟩
  · have e : Ex F1 α1 H1 F1 α1 (upd H1 D (.lst [])) := ⟨fun _ h => h, ⟨[], (List.append_nil _).symm⟩, fun a u e _ => by rw [upd_ne (ne_of_none e hD)]; exact e, fun _ h n => absurd h n, fun _ _ h _ _ => h⟩
    refine ⟨W1.len, W1.nd, W1.nf, fun a h => ?_, fun n c a hn ha => ?_⟩
    · obtain ⟨o, ho⟩ := W1.fr a h
      exact ⟨o, by rw [upd_ne (ne_of_none ho hD)]; exact ho⟩
    · obtain ⟨o, ho, hc⟩ := W1.at_ n c a hn ha
      exact ⟨o, by rw [upd_ne (ne_of_none ho hD)]; exact ho, hc.mono W1.nf e⟩
  rintro i k H' ⟨rfl, hi, acc, av, m', F', α', hacc, e', W', hD', hF', hα', ra, p'⟩
  by_cases hlt : i < s.items.length
  · rw [List.drop_eq_getElem_cons hlt, lcX] at p'
    by_cases hc : chkOk m' s.chk
    · rw [if_pos hc] at p'
      obtain ⟨h1, h2⟩ := hJ F' α' m' H' e' W' hc
      obtain ⟨hgo, hy⟩ := h1 i _ (List.getElem?_eq_getElem hlt)
      split at p'
      · rename_i ρ1 hput
        refine .inr ⟨hgo, fun H2 => ∃ m2, m2 < s.items.length - i ∧ (m2 = s.items.length - (i + 1) ∧ i + 1 ≤ s.items.length ∧ ∃ acc av m' F' α', acc.length ≤ i + 1 ∧ Ex F1 α1 H1 F' α' H2 ∧ Wk K F' α' m' H2 ∧ H2 D = some (.lst av) ∧ ¬ F' D ∧ D ∉ α' ∧ Rps K F' α' H2 acc av ∧
          Post K (VR K) ((lcX t ft fe s.chk (wipeP ρ vs) (s.items.drop (i + 1)) m').bind fun ys m2 => mkL cc (acc ++ ys) m2) F1 α1 H1 Q ex), fun H2 h => h, fun xv H2 hyl => ?_⟩
        obtain ⟨F2, e2, W2, r2⟩ := hy xv H2 hyl
        have RR : EnvR K F2 α' H2 (wipeP ρ vs) (L2.wipe σ vs) := (R1.mono W1.nf e').mono W'.nf e2
        -- D stays as it is
        have stay : ∀ {F3 α3 H3 F4 α4 H4 av}, Ex F3 α3 H3 F4 α4 H4 → H3 D = some (.lst av) → ¬ F3 D → D ∉ α3 → H4 D = some (.lst av) ∧ ¬ F4 D ∧ D ∉ α4 := fun e h1 h2 h3 =>
          ⟨e.k D _ h1 h3, fun q => h2 (e.fn D _ q h1 h3), fun q => by have := e.new D q h3; rw [h1] at this; cases this⟩
        obtain ⟨d1, d2, d3⟩ := stay e2 hD' hF' hα'
        rw [Res.bind_calm] at p'
        refine t.sound RR r2 hput fun σ2 R2 ag l2 => ⟨(wipe_ext l2 fun j hj => ag j fun q => hj (hv j q)).trans (wipe_idem σ vs), ρ1, m', F2, α', W2, R2, Post.bindB p' fun b m3 F3 α3 H3 b' e3 W3 hb p3 => ?_⟩
        cases hb
        obtain ⟨d4, d5, d6⟩ := stay e3 d1 d2 d3
        cases b with
        | true =>
          rw [if_pos rfl] at p3 ⊢
          rw [Res.bind_bind] at p3
          refine ⟨ρ1, m3, F3, α3, W3, R2.mono W2.nf e3, Post.bindM p3 (e'.trans (e2.trans e3)) fun y m4 F4 α4 H4 yv e4 W4 ry p4 => ?_⟩
          obtain ⟨d7, d8, d9⟩ := stay e4 d4 d5 d6
          refine ⟨av, d7, ?_, _, by omega, rfl, hlt, acc ++ [y], av ++ [yv], m4, F4, α4, ?_, ?_, (W4.apart d8 d9).2, upd_same, d8, d9, ?_, ?_⟩
          · rw [← ra.length]
            exact Nat.lt_of_le_of_lt (show acc.length ≤ 100000 by omega) (by decide)
          · rw [List.length_append]
            show acc.length + 1 ≤ i + 1
            omega
          · have ee := e'.trans (e2.trans (e3.trans e4))
            exact ⟨ee.f, ee.al, fun a o h n => by rw [upd_ne (ne_of_none h hD)]; exact ee.k a o h n, ee.new, ee.fn⟩
          · exact (((((ra.mono W'.nf e2).mono W2.nf e3).mono W3.nf e4).append (.one ry))).sub (W4.apart d8 d9).1
          · rw [Res.bind_bind] at p4
            simpa only [Res.bind, List.append_assoc, List.cons_append, List.nil_append] using p4
        | false =>
          rw [if_neg Bool.false_ne_true] at p3 ⊢
          exact ⟨_, by omega, rfl, hlt, acc, av, m3, F3, α3, by omega, e'.trans (e2.trans e3), W3, d4, d5, d6, (ra.mono W'.nf e2).mono W2.nf e3, p3⟩
      · exact p'.elim
    · rw [if_neg hc] at p'; exact p'.elim
  · have hi' : i = s.items.length := by omega
    subst hi'
    rw [List.drop_length, lcX] at p'
    by_cases hc : chkOk m' s.chk
    · rw [if_pos hc] at p'
      obtain ⟨h1, h2⟩ := hJ F' α' m' H' e' W' hc
      refine .inl ⟨h2, ?_⟩
      have p2 : Post K (VR K) (mkL cc acc m') F1 α1 H1 Q ex := by simpa only [Res.bind, List.append_nil] using p'
      unfold L2.Q.mkL at p2
      have np : ∀ a, a ∈ α' → a ≠ D := fun a ha q => hα' (by rw [← q]; exact ha)
      split at p2
      · refine p2 _ F' (α' ++ [D]) H' ⟨e'.f, ?_, e'.k, fun a ha n => ?_, e'.fn⟩ ⟨by rw [List.length_append, List.length_append, W'.len]; rfl, ?_, fun a ha hf => ?_, W'.fr, fun n c a hn ha => ?_⟩ (.cell ?_)
        · obtain ⟨l, rfl⟩ := e'.al
          exact ⟨l ++ [D], List.append_assoc _ _ _⟩
        · rcases List.mem_append.mp ha with q | q
          · exact e'.new a q n
          · rw [List.mem_singleton.mp q]; exact hD
        · rw [List.nodup_append]
          exact ⟨W'.nd, List.nodup_cons.mpr ⟨List.not_mem_nil, List.nodup_nil⟩, fun a ha b hb => by rw [List.mem_singleton.mp hb]; exact np a ha⟩
        · rcases List.mem_append.mp ha with q | q
          · exact W'.nf a q hf
          · rw [List.mem_singleton.mp q] at hf; exact hF' hf
        · have sb : Sub F' α' H' F' (α' ++ [D]) H' := ⟨fun _ h => h, fun n a h => by rw [List.getElem?_append_left (List.getElem?_eq_some_iff.mp h).1]; exact h, fun _ _ _ h => h⟩
          by_cases hl : n < m'.length
          · rw [List.getElem?_append_left hl] at hn
            rw [List.getElem?_append_left (by rw [W'.len]; exact hl)] at ha
            obtain ⟨o', ho, hc'⟩ := W'.at_ n c a hn ha
            exact ⟨o', ho, hc'.sub sb⟩
          · rw [List.getElem?_append_right (by omega)] at hn
            rw [List.getElem?_append_right (by rw [W'.len]; omega), W'.len] at ha
            cases hk : n - m'.length with
            | zero =>
              rw [hk] at hn ha
              cases hn; cases ha
              exact ⟨_, hD', ra.sub sb⟩
            | succ k => rw [hk] at hn; cases hn
        · rw [← W'.len, List.getElem?_append_right (Nat.le_refl _), Nat.sub_self]; rfl
      · refine p2 _ (fun a => F' a ∨ a = D) α' H' ⟨fun a h => .inl (e'.f a h), e'.al, e'.k, e'.new, fun a o hf h n => hf.elim (fun q => e'.fn a o q h n) fun q => by rw [q, hD] at h; cases h⟩ ⟨W'.len, W'.nd, fun a ha hf => hf.elim (W'.nf a ha) (np a ha), fun a hf => hf.elim (W'.fr a) fun q => ⟨HO.lst av, by subst q; exact hD'⟩, fun n c a hn ha => ?_⟩ (.lst (.inr rfl) hD' ?_)
        · obtain ⟨o', ho, hc'⟩ := W'.at_ n c a hn ha
          exact ⟨o', ho, hc'.sub ⟨fun _ h => .inl h, fun _ _ h => h, fun _ _ _ h => h⟩⟩
        · exact ra.sub ⟨fun _ h => .inl h, fun _ _ h => h, fun _ _ _ h => h⟩
    · rw [if_neg hc] at p'; exact p'.elim
end
theorem pp_lcX {X : Cx} {E : XK} {elt tg iter : Expr} {ifs : List Expr} {scope : Scope} {own : List (Str × Nat)} {pos : Pos} {ff : FI} {t : Tg} {ft : FT} {fe : FE} (cc : Bool) (hc : X.calm = true) (hN : X.N.Nodup) (hst : X.stack = X.env :: X.outer) (hfr : X.env.frame = some X.env.locals)
    (tk : Takes X (fun cls d _ H => E cls d H)) (hi : PI X tg iter (tI X.K (fun _ => E) ff)) (ok : BlkOk X.N X.env.scope scope own) (hv : ∀ j ∈ t.slots, j ∈ own.map (·.2))
    (hg : ∀ s H C cl fp xe, PG (blkX X s H scope (compEnvC scope cl C X.env) fp xe) tg (t.rd X.K)) (ht : ∀ s H C cl fp xe, PTs (blkX X s H scope (compEnvC scope cl C X.env) fp xe) ifs (tT X.K (fun _ => E0) ft))
    (he : ∀ s H C cl fp xe, (∀ σ, PassesAt (L2.CX X.prog X.w) (blkX X s H scope (compEnvC scope cl C X.env) fp xe) σ E) → PE (blkX X s H scope (compEnvC scope cl C X.env) fp xe) elt (tP X.K (fun _ => E) fe)) (hs : ∀ x, foldedSetIterable iter X.env x = pure x := by intro _; rfl) :
    PE X (.ListComp elt [⟨tg, iter, ifs, 0⟩] scope pos) (tP X.K (fun _ => E) (fLcX cc ff t ft fe (own.map (·.2)))) := pe_imp (pe_lcX hc hN hst hfr tk hi ok hg ht he hs) fun σ H Q w => lcX_of hv w
end
/-! M01 -/
section
open PySem PySem.Spec PyProof.Rows
/-- a value of a row -/
inductive Kv where
  | n (i : Int)
  | t (x : List Nat)
  deriving DecidableEq
def GoodC (c : Nat) : Prop := 32 ≤ c ∧ c ≤ 126 ∧ c ≠ 37
instance (c : Nat) : Decidable (GoodC c) := by unfold GoodC; infer_instance
def Kv.Good : Kv → Prop
  | .n i => -(10 ^ 9) ≤ i ∧ i ≤ 10 ^ 9
  | .t x => x.length ≤ 6 ∧ ∀ c ∈ x, GoodC c
def Kv.kind : Kv → Int
  | .n _ => 0
  | .t _ => 1
def strL (x : List Nat) : Str := ⟨x.toArray⟩
def Kv.v : Kv → V
  | .n i => .int i
  | .t x => .str (strL x)
def dig5 (m : Int) : List Int := [m / 4294967296 % 256, m / 16777216 % 256, m / 65536 % 256, m / 256 % 256, m % 256]
def kb : Kv → List Int
  | .n i => 1 :: dig5 (i + 549755813888)
  | .t x => 2 :: (x.map (fun c : Nat => (c : Int)) ++ [0])
def keyB : List Kv → List Int
  | [] => []
  | v :: vs => kb v ++ keyB vs
theorem keyB_append (a b : List Kv) : keyB (a ++ b) = keyB a ++ keyB b := by
  induction a with
  | nil => rfl
  | cons v vs ih => show kb v ++ keyB (vs ++ b) = kb v ++ keyB vs ++ keyB b; rw [ih, List.append_assoc]
/-! ### the order -/
def lexN : List Nat → List Nat → Bool
  | [], [] => false
  | [], _ :: _ => true
  | _ :: _, [] => false
  | x :: xs, y :: ys => if x = y then lexN xs ys else decide (x < y)
def Kv.lt : Kv → Kv → Bool
  | .n i, .n j => decide (i < j)
  | .n _, .t _ => true
  | .t _, .n _ => false
  | .t x, .t y => lexN x y
def rowLt : List Kv → List Kv → Bool
  | [], [] => false
  | [], _ :: _ => true
  | _ :: _, [] => false
  | x :: xs, y :: ys => if x = y then rowLt xs ys else x.lt y
theorem lexI_pre (p a b : List Int) : lexI (p ++ a) (p ++ b) = lexI a b := by
  induction p with
  | nil => rfl
  | cons x p ih => show (if x = x then lexI (p ++ a) (p ++ b) else _) = _; rw [if_pos rfl, ih]
theorem lexI_ne {c d : Int} (h : c ≠ d) (a b : List Int) : lexI (c :: a) (d :: b) = decide (c < d) := by
  show (if c = d then _ else _) = _
  rw [if_neg h]
theorem lexI_self (a : List Int) : lexI a a = false := by
  have := lexI_pre a [] []
  rw [List.append_nil] at this
  exact this
/-- where two codes part -/
structure Part (a b : List Int) (lt : Bool) : Prop where
  ex : ∃ p c d s t, a = p ++ c :: s ∧ b = p ++ d :: t ∧ c ≠ d ∧ lt = decide (c < d)
theorem Part.lexI {a b : List Int} {lt : Bool} (h : Part a b lt) (x y : List Int) : lexI (a ++ x) (b ++ y) = lt := by
  obtain ⟨p, c, d, s, t, rfl, rfl, hn, rfl⟩ := h.ex
  rw [List.append_assoc, List.append_assoc, lexI_pre]
  exact lexI_ne hn _ _
theorem Part.cons {a b : List Int} {lt : Bool} (h : Part a b lt) (z : Int) : Part (z :: a) (z :: b) lt := by
  obtain ⟨p, c, d, s, t, rfl, rfl, hn, e⟩ := h.ex
  exact ⟨z :: p, c, d, s, t, rfl, rfl, hn, e⟩
theorem Part.here {c d : Int} {s t : List Int} (h : c ≠ d) : Part (c :: s) (d :: t) (decide (c < d)) := ⟨[], c, d, s, t, rfl, rfl, h, rfl⟩
theorem Part.of {a b : List Int} {u v : Bool} (h : Part a b u) (e : u = v) : Part a b v := e ▸ h
theorem part_txt : ∀ x y : List Nat, (∀ c ∈ x, 0 < c) → (∀ c ∈ y, 0 < c) → x ≠ y → Part (x.map (fun c : Nat => (c : Int)) ++ [0]) (y.map (fun c : Nat => (c : Int)) ++ [0]) (lexN x y)
  | [], [], _, _, h => absurd rfl h
  | [], d :: y, _, hy, _ => (Part.here (c := 0) (d := (d : Int)) (by have := hy d List.mem_cons_self; omega)).of (by
      show _ = true
      exact decide_eq_true (by have := hy d List.mem_cons_self; omega))
  | c :: x, [], hx, _, _ => (Part.here (c := (c : Int)) (d := 0) (by have := hx c List.mem_cons_self; omega)).of (by
      show _ = false
      exact decide_eq_false (by have := hx c List.mem_cons_self; omega))
  | c :: x, d :: y, hx, hy, h => by
    by_cases e : c = d
    · subst e
      have ih := part_txt x y (fun z hz => hx z (List.mem_cons_of_mem _ hz)) (fun z hz => hy z (List.mem_cons_of_mem _ hz)) (fun k => h (by rw [k]))
      refine (ih.cons c).of ?_
      show _ = if c = c then lexN x y else _
      rw [if_pos rfl]
    · refine (Part.here (c := (c : Int)) (d := (d : Int)) (by omega)).of ?_
      show _ = if c = d then lexN x y else decide (c < d)
      rw [if_neg e, decide_eq_decide]
      omega
theorem part_dig {a b : Int} (ha : 0 ≤ a ∧ a < 1099511627776) (hb : 0 ≤ b ∧ b < 1099511627776) (h : a ≠ b) : Part (dig5 a) (dig5 b) (decide (a < b)) := by
  unfold dig5
  by_cases e4 : a / 4294967296 % 256 = b / 4294967296 % 256
  · rw [e4]
    refine Part.cons ?_ _
    by_cases e3 : a / 16777216 % 256 = b / 16777216 % 256
    · rw [e3]
      refine Part.cons ?_ _
      by_cases e2 : a / 65536 % 256 = b / 65536 % 256
      · rw [e2]
        refine Part.cons ?_ _
        by_cases e1 : a / 256 % 256 = b / 256 % 256
        · rw [e1]
          refine Part.cons ?_ _
          refine (Part.here (by omega)).of ?_
          rw [decide_eq_decide]
          omega
        · refine (Part.here e1).of ?_
          rw [decide_eq_decide]
          omega
      · refine (Part.here e2).of ?_
        rw [decide_eq_decide]
        omega
    · refine (Part.here e3).of ?_
      rw [decide_eq_decide]
      omega
  · refine (Part.here e4).of ?_
    rw [decide_eq_decide]
    omega
theorem part_kb {v w : Kv} (hv : v.Good) (hw : w.Good) (h : v ≠ w) : Part (kb v) (kb w) (v.lt w) := by
  cases v with
  | n i => cases w with
    | n j =>
      obtain ⟨h1, h2⟩ := hv
      obtain ⟨h3, h4⟩ := hw
      refine ((part_dig (a := i + 549755813888) (b := j + 549755813888) (by omega) (by omega) (fun k => h (by rw [show i = j by omega]))).cons 1).of ?_
      show _ = decide (i < j)
      rw [decide_eq_decide]
      omega
    | t y => exact (Part.here (by decide)).of rfl
  | t x => cases w with
    | n j => exact (Part.here (by decide)).of rfl
    | t y => exact (part_txt x y (fun c hc => by have := (hv.2 c hc).1; omega) (fun c hc => by have := (hw.2 c hc).1; omega) (fun k => h (by rw [k]))).cons 2
theorem kb_ne {v : Kv} : ∃ c r, kb v = c :: r ∧ (c = 1 ∨ c = 2) := by
  cases v with
  | n i => exact ⟨1, _, rfl, .inl rfl⟩
  | t x => exact ⟨2, _, rfl, .inr rfl⟩
theorem keyB_lt : ∀ xs ys : List Kv, (∀ v ∈ xs, v.Good) → (∀ v ∈ ys, v.Good) → lexI (keyB xs) (keyB ys) = rowLt xs ys
  | [], [], _, _ => rfl
  | [], y :: ys, _, _ => by
    obtain ⟨c, r, e, _⟩ := kb_ne (v := y)
    show lexI [] (kb y ++ keyB ys) = true
    rw [e]
    rfl
  | x :: xs, [], _, _ => by
    obtain ⟨c, r, e, _⟩ := kb_ne (v := x)
    show lexI (kb x ++ keyB xs) [] = false
    rw [e]
    rfl
  | x :: xs, y :: ys, hx, hy => by
    show lexI (kb x ++ keyB xs) (kb y ++ keyB ys) = if x = y then rowLt xs ys else x.lt y
    by_cases e : x = y
    · subst e
      rw [if_pos rfl, lexI_pre]
      exact keyB_lt xs ys (fun v hv => hx v (List.mem_cons_of_mem _ hv)) (fun v hv => hy v (List.mem_cons_of_mem _ hv))
    · rw [if_neg e]
      exact (part_kb (hx x List.mem_cons_self) (hy y List.mem_cons_self) e).lexI _ _
theorem keyB_inj : ∀ xs ys : List Kv, (∀ v ∈ xs, v.Good) → (∀ v ∈ ys, v.Good) → keyB xs = keyB ys → xs = ys
  | [], [], _, _, _ => rfl
  | [], y :: ys, _, _, h => by
    obtain ⟨c, r, e, _⟩ := kb_ne (v := y)
    have h' : [] = kb y ++ keyB ys := h
    rw [e] at h'; cases h'
  | x :: xs, [], _, _, h => by
    obtain ⟨c, r, e, _⟩ := kb_ne (v := x)
    have h' : kb x ++ keyB xs = [] := h
    rw [e] at h'; cases h'
  | x :: xs, y :: ys, hx, hy, h => by
    have h' : kb x ++ keyB xs = kb y ++ keyB ys := h
    by_cases e : x = y
    · subst e
      rw [keyB_inj xs ys (fun v hv => hx v (List.mem_cons_of_mem _ hv)) (fun v hv => hy v (List.mem_cons_of_mem _ hv)) (List.append_cancel_left h')]
    · obtain ⟨p, c, d, s, t, e1, e2, hn, _⟩ := (part_kb (hx x List.mem_cons_self) (hy y List.mem_cons_self) e).ex
      rw [e1, e2, List.append_assoc, List.append_assoc] at h'
      have := List.append_cancel_left h'
      injection this with k _
      exact absurd k hn
end
/-! NP -/
section
open PySem PySem.Spec PyProof.Rows
section
variable {m l : M} {k : Nat} {c : Cell}
@[simp] theorem st_get0 {c : Cell} {l : M} : (m ++ c :: l)[m.length]? = some c := by simp
@[simp] theorem st_get1 {c d : Cell} {l : M} : (m ++ c :: d :: l)[m.length + 1]? = some d := by
  rw [List.getElem?_append_right (by omega)]; simp
@[simp] theorem st_get2 {c d e : Cell} {l : M} : (m ++ c :: d :: e :: l)[m.length + 2]? = some e := by
  rw [List.getElem?_append_right (by omega)]
  have : m.length + 2 - m.length = 2 := by omega
  rw [this]; rfl
@[simp] theorem st_set0 {c d : Cell} {l : M} : (m ++ c :: l).set m.length d = m ++ d :: l := by
  rw [List.set_append, if_neg (by omega), Nat.sub_self]; rfl
@[simp] theorem st_set1 {c d e : Cell} {l : M} : (m ++ c :: d :: l).set (m.length + 1) e = m ++ c :: e :: l := by
  rw [List.set_append, if_neg (by omega), show m.length + 1 - m.length = 1 by omega]; rfl
@[simp] theorem st_set2 {c d e f : Cell} {l : M} : (m ++ c :: d :: e :: l).set (m.length + 2) f = m ++ c :: d :: f :: l := by
  rw [List.set_append, if_neg (by omega), show m.length + 2 - m.length = 2 by omega]; rfl
theorem kitS : kitB "str" "str" = some true := by decide +kernel
end
/-! ### kinds -/
@[simp] theorem kit_ii : kitB "int" "int" = some true := by decide +kernel
@[simp] theorem kit_ib : kitB "int" "bool" = some false := by decide +kernel
@[simp] theorem kit_is : kitB "int" "str" = some false := by decide +kernel
@[simp] theorem kit_it : kitB "int" "tuple" = some false := by decide +kernel
@[simp] theorem kit_il : kitB "int" "list" = some false := by decide +kernel
@[simp] theorem kit_id : kitB "int" "dict" = some false := by decide +kernel
@[simp] theorem kit_bi : kitB "bool" "int" = some true := by decide +kernel
@[simp] theorem kit_bb : kitB "bool" "bool" = some true := by decide +kernel
@[simp] theorem kit_bs : kitB "bool" "str" = some false := by decide +kernel
@[simp] theorem kit_bt : kitB "bool" "tuple" = some false := by decide +kernel
@[simp] theorem kit_bl : kitB "bool" "list" = some false := by decide +kernel
@[simp] theorem kit_bd : kitB "bool" "dict" = some false := by decide +kernel
@[simp] theorem kit_si : kitB "str" "int" = some false := by decide +kernel
@[simp] theorem kit_sb : kitB "str" "bool" = some false := by decide +kernel
@[simp] theorem kit_ss : kitB "str" "str" = some true := by decide +kernel
@[simp] theorem kit_st : kitB "str" "tuple" = some false := by decide +kernel
@[simp] theorem kit_sl : kitB "str" "list" = some false := by decide +kernel
@[simp] theorem kit_sd : kitB "str" "dict" = some false := by decide +kernel
@[simp] theorem kit_ti : kitB "tuple" "int" = some false := by decide +kernel
@[simp] theorem kit_tb : kitB "tuple" "bool" = some false := by decide +kernel
@[simp] theorem kit_ts : kitB "tuple" "str" = some false := by decide +kernel
@[simp] theorem kit_tt : kitB "tuple" "tuple" = some true := by decide +kernel
@[simp] theorem kit_tl : kitB "tuple" "list" = some false := by decide +kernel
@[simp] theorem kit_td : kitB "tuple" "dict" = some false := by decide +kernel
@[simp] theorem kit_li : kitB "list" "int" = some false := by decide +kernel
@[simp] theorem kit_lb : kitB "list" "bool" = some false := by decide +kernel
@[simp] theorem kit_ls : kitB "list" "str" = some false := by decide +kernel
@[simp] theorem kit_lt : kitB "list" "tuple" = some false := by decide +kernel
@[simp] theorem kit_ll : kitB "list" "list" = some true := by decide +kernel
@[simp] theorem kit_ld : kitB "list" "dict" = some false := by decide +kernel
@[simp] theorem kit_ni : kitB "NoneType" "int" = some false := by decide +kernel
@[simp] theorem kit_nb : kitB "NoneType" "bool" = some false := by decide +kernel
@[simp] theorem kit_ns : kitB "NoneType" "str" = some false := by decide +kernel
@[simp] theorem kit_nt : kitB "NoneType" "tuple" = some false := by decide +kernel
@[simp] theorem kit_nl : kitB "NoneType" "list" = some false := by decide +kernel
@[simp] theorem kit_nd : kitB "NoneType" "dict" = some false := by decide +kernel
/-! ### what is handed out -/
@[simp] theorem un_non {n} : P.under n .non = true := by simp only [P.under]
@[simp] theorem un_bl {n b} : P.under n (.bl b) = true := by simp only [P.under]
@[simp] theorem un_int {n i} : P.under n (.int i) = true := by simp only [P.under]
@[simp] theorem un_str {n i} : P.under n (.str i) = true := by simp only [P.under]
@[simp] theorem un_ty {n i} : P.under n (.ty i) = true := by simp only [P.under]
@[simp] theorem un_cls {n i} : P.under n (.cls i) = true := by simp only [P.under]
@[simp] theorem un_tup {n xs} : P.under n (.tup xs) = P.unders n xs := by simp only [P.under]
@[simp] theorem un_lst {n xs} : P.under n (.lst xs) = P.unders n xs := by simp only [P.under]
@[simp] theorem un_xls {n xs} : P.under n (.xls xs) = P.unders n xs := by simp only [P.under]
@[simp] theorem un_cell {n k} : P.under n (.cell k) = decide (k < n) := by simp only [P.under]
@[simp] theorem uns_nil {n} : P.unders n [] = true := by simp only [P.unders]
@[simp] theorem uns_cons {n x xs} : P.unders n (x :: xs) = (P.under n x && P.unders n xs) := by simp only [P.unders]
theorem uns_all {n} : ∀ {xs : List P}, (∀ x ∈ xs, P.under n x = true) → P.unders n xs = true
  | [], _ => uns_nil
  | x :: xs, h => by rw [uns_cons, h x List.mem_cons_self, uns_all fun y hy => h y (List.mem_cons_of_mem _ hy)]; rfl
@[simp] theorem uns_app {n} : ∀ {xs ys : List P}, P.unders n (xs ++ ys) = (P.unders n xs && P.unders n ys)
  | [], ys => by simp
  | x :: xs, ys => by simp [uns_app, Bool.and_assoc]
@[simp] theorem uns_ints {n} {l : List Int} : P.unders n (l.map P.int) = true := uns_all fun x hx => by
  obtain ⟨i, _, rfl⟩ := List.mem_map.mp hx
  exact un_int
theorem fz_under {n m k d} (h : P.under n d = true) : fz n m k d = some d := by cases k <;> simp only [fz, h, if_true]
theorem fzs_under {n m k} : ∀ {xs : List P}, P.unders n xs = true → fzs (fz n m k) xs = some xs
  | [], _ => rfl
  | x :: xs, h => by
    rw [uns_cons, Bool.and_eq_true] at h
    rw [fzs, fz_under h.1, fzs_under h.2]
theorem OkCut.app {m l : M} : OkCut m (m ++ l) := OkCut.refl.add
/-- a tree is handed out, the elder cells are as they were -/
theorem cut_tree {m l : M} {d : P} (h : P.under m.length d = true) : cutV' m d (m ++ l) = .ok d m := by
  unfold cutV'
  rw [if_pos OkCut.app, fz_under h, List.take_left]
theorem cut_tree0 {m : M} {d : P} (h : P.under m.length d = true) : cutV' m d m = .ok d m := by
  have := cut_tree (l := []) h
  rwa [List.append_nil] at this
/-- a new list is handed out -/
theorem cut_list {m l : M} {k : Nat} {xs : List P} (hk : m.length ≤ k) (hc : (m ++ l)[k]? = some (.lst xs)) (h : P.unders m.length xs = true) : cutV' m (.cell k) (m ++ l) = .ok (.lst xs) m := by
  unfold cutV'
  rw [if_pos OkCut.app, fz, if_neg (by simp; omega)]
  simp only [hc]
  rw [fzs_under h, List.take_left]
  rfl
/-- .. the elder cells may have changed -/
theorem cut_at {m m' : M} {d : P} (ok : OkCut m m') (h : P.under m.length d = true) : cutV' m d m' = .ok d (m'.take m.length) := by
  unfold cutV'
  rw [if_pos ok, fz_under h]
theorem fits_le {n : Nat} (h : n ≤ 100000) : fits n = true := decide_eq_true h
@[simp] theorem fnC_ret {n : Nat} {fb : FS} {ds : List P} {m m' : M} {d d' : P} {m2 : M} : (finish true m (.rt d m')) = cutV' m d m' := rfl
/-! ### loops without cells -/
@[simp] theorem chk_nil {m : M} : chkOk m [] = True := rfl
theorem chk0 {m : M} : chkOk m [] := trivial
theorem forG_nil {g : Tg} {body : FS} {ρ : Env} {m : M} : forG g body [] [] ρ m = .nx ρ m := by rw [forG, if_pos chk0]
theorem forG_cons {g : Tg} {body : FS} {x : P} {xs : List P} {ρ : Env} {m : M} : forG g body [] (x :: xs) ρ m = match g.put x ρ with
    | some ρ1 => match body ρ1 m with
      | .nx ρ2 m2 => forG g body [] xs ρ2 m2
      | .ct ρ2 m2 => forG g body [] xs ρ2 m2
      | .bk ρ2 m2 => .nx ρ2 m2
      | o => o
    | none => .stuck := by rw [forG, if_pos chk0] <;> rfl
theorem lcG_nil {g : Tg} {tt : FT} {te : FE} {ρ : Env} {m : M} : lcG g tt te [] ρ [] m = .ok [] m := by rw [lcG, if_pos chk0]
theorem lcG_cons {g : Tg} {tt : FT} {te : FE} {x : P} {xs : List P} {ρ : Env} {m : M} : lcG g tt te [] ρ (x :: xs) m = match g.put x ρ with
    | some ρ1 => (tt ρ1 m).calm.bind fun b m1 => if b = true then (te ρ1 m1).calm.bind fun y m2 => (lcG g tt te [] ρ xs m2).bind fun ys m3 => .ok (y :: ys) m3 else lcG g tt te [] ρ xs m1
    | none => .stuck := by rw [lcG, if_pos chk0] <;> rfl
/-- each element by its own, nothing is left out -/
theorem lcG_map {α : Type} {i : Nat} {te : FE} {ρ : Env} {m : M} {f : α → P} {h : α → P} : ∀ {xs : List α}, (∀ x ∈ xs, te (ρ.set i (some (f x))) m = .ok (h x) m) → lcG (.name i) fYes te [] ρ (xs.map f) m = .ok (xs.map h) m
  | [], _ => lcG_nil
  | x :: xs, hh => by
    rw [List.map_cons, lcG_cons]
    simp only [Tg.put, fYes, Res.calm, Res.bind, if_true]
    rw [hh x List.mem_cons_self]
    simp only [Res.calm, Res.bind]
    rw [lcG_map fun y hy => hh y (List.mem_cons_of_mem _ hy)]
    rfl
end
/-! NE -/
section
open PySem PySem.Spec PyProof.Rows
theorem nr {α : Sort _} {a b : α} (h : a = b) : a = b := h
section
variable {β δ : Type} {d : β} {m : M} {ρ : Env} {k : β → M → Res δ} {ko : β → M → Out} {c : Str} {fs : List (Str × P)}
theorem b_ok : (Res.ok d m).bind k = k d m := nr rfl
theorem b_st : (Res.stuck : Res β).bind k = .stuck := nr rfl
theorem b_ex : (Res.exc c fs m : Res β).bind k = .exc c fs m := nr rfl
theorem o_ok : (Res.ok d m).outs ρ ko = ko d m := nr rfl
theorem o_st : (Res.stuck : Res β).outs ρ ko = .stuck := nr rfl
theorem o_ex : (Res.exc c fs m : Res β).outs ρ ko = .exc c fs ρ m := nr rfl
theorem c_ok : (Res.ok d m).calm = .ok d m := nr rfl
theorem c_st : (Res.stuck : Res β).calm = .stuck := nr rfl
theorem c_ex : (Res.exc c fs m : Res β).calm = .stuck := nr rfl
end
section
variable {m : M} {a b : Int} {x y z : Str} {xs ys : List P} {n k : Nat} {c : Bool} {d e : P} {ρ : Env} {p q : Bool} {lo hi : Option Int} {t : String}
theorem lw_l : lw m (.lst xs) = some xs := nr rfl
theorem lw_c : lw m (.cell n) = match m[n]? with
  | some (.lst xs) => some xs
  | _ => none := nr rfl
theorem lv_l : lv m (.lst xs) = some xs := nr rfl
theorem lv_c : lv m (.cell n) = match m[n]? with
  | some (.lst xs) => some xs
  | _ => none := nr rfl
theorem lv_x : lv m (.xls xs) = some xs := nr rfl
theorem sv_l : sv m (.lst xs) = some xs := nr rfl
theorem sv_c : sv m (.cell n) = match m[n]? with
  | some (.lst xs) => some xs
  | _ => none := nr rfl
theorem sv_x : sv m (.xls xs) = some xs := nr rfl
theorem sv_t : sv m (.tup xs) = some xs := nr rfl
theorem lw_i : lw m (.int a) = none := nr rfl
theorem lw_s : lw m (.str x) = none := nr rfl
theorem lw_t : lw m (.tup xs) = none := nr rfl
theorem lv_s : lv m (.str x) = none := nr rfl
theorem lv_t : lv m (.tup xs) = none := nr rfl
theorem lv_i : lv m (.int a) = none := nr rfl
theorem lv_n : lv m .non = none := nr rfl
theorem add_ii : oAdd c (.int a) (.int b) m = .ok (.int (a + b)) m := nr rfl
theorem add_ss : oAdd c (.str x) (.str y) m = if fits (x.length + y.length) = true then .ok (.str (x ++ y)) m else .stuck := nr rfl
theorem add_tt : oAdd c (.tup xs) (.tup ys) m = if fits (xs.length + ys.length) = true then .ok (.tup (xs ++ ys)) m else .stuck := nr rfl
theorem add_ll : oAdd c (.lst xs) (.lst ys) m = if fits (xs.length + ys.length) = true then mkL c (xs ++ ys) m else .stuck := nr rfl
theorem add_lc : oAdd c (.lst xs) (.cell n) m = match some xs, lw m (.cell n) with
  | some xs, some ys => if fits (xs.length + ys.length) = true then mkL c (xs ++ ys) m else .stuck
  | _, _ => .stuck := nr rfl
theorem add_cl : oAdd c (.cell n) (.lst ys) m = match lw m (.cell n), some ys with
  | some xs, some ys => if fits (xs.length + ys.length) = true then mkL c (xs ++ ys) m else .stuck
  | _, _ => .stuck := nr rfl
theorem add_cc : oAdd c (.cell n) (.cell k) m = match lw m (.cell n), lw m (.cell k) with
  | some xs, some ys => if fits (xs.length + ys.length) = true then mkL c (xs ++ ys) m else .stuck
  | _, _ => .stuck := nr rfl
theorem sub_ii : oSub (.int a) (.int b) m = .ok (.int (a - b)) m := nr rfl
theorem plus_ii : oPlus (.int a) (.int b) m = .ok (.int (a + b)) m := nr rfl
theorem mul_ii : oMul c (.int a) (.int b) m = if mulOk a b = true then .ok (.int (a * b)) m else .stuck := nr rfl
theorem mul_li : oMul c (.lst [d]) (.int a) m = if decide (0 ≤ a ∧ a ≤ 100000) = true then mkL c (List.replicate a.toNat d) m else .stuck := nr rfl
theorem fdv_ii : oFdv (.int a) (.int b) m = if decide (0 < b ∧ b < 2 ^ 62) = true then .ok (.int (a / b)) m else .stuck := nr rfl
theorem mod_ii : oMod (.int a) (.int b) m = if decide (0 < b) = true then .ok (.int (a % b)) m else .stuck := nr rfl
theorem pow_ii : oPow (.int a) (.int b) m = if decide (0 ≤ b ∧ b ≤ 1000000 ∧ a.natAbs < 2 ^ 64) = true then .ok (.int (a ^ b.toNat)) m else .stuck := nr rfl
theorem neg_i : oNeg (.int a) m = .ok (.int (-a)) m := nr rfl
theorem sh_i : sh m (.int a) = .int a := nr rfl
theorem sh_s : sh m (.str x) = .str x := nr rfl
theorem sh_t : sh m (.tup xs) = .tup xs := nr rfl
theorem sh_l : sh m (.lst xs) = .lst xs := nr rfl
theorem sh_n : sh m .non = .non := nr rfl
theorem sh_b : sh m (.bl p) = .bl p := nr rfl
theorem sh_c : sh m (.cell n) = match m[n]? with
  | some (.lst xs) => .lst xs
  | _ => .cell n := nr rfl
theorem eq_nn : oEq .non .non m = .ok (.bl true) m := nr rfl
theorem ne_nn : oNe .non .non m = .ok (.bl (!true)) m := nr rfl
theorem eq_ni : oEq .non (.int b) m = .ok (.bl false) m := nr rfl
theorem ne_ni : oNe .non (.int b) m = .ok (.bl (!false)) m := nr rfl
theorem eq_in : oEq (.int a) .non m = .ok (.bl false) m := nr rfl
theorem ne_in : oNe (.int a) .non m = .ok (.bl (!false)) m := nr rfl
theorem eq_nb : oEq .non (.bl q) m = .ok (.bl false) m := nr rfl
theorem ne_nb : oNe .non (.bl q) m = .ok (.bl (!false)) m := nr rfl
theorem eq_bn : oEq (.bl p) .non m = .ok (.bl false) m := nr rfl
theorem ne_bn : oNe (.bl p) .non m = .ok (.bl (!false)) m := nr rfl
theorem eq_ns : oEq .non (.str y) m = .ok (.bl false) m := nr rfl
theorem ne_ns : oNe .non (.str y) m = .ok (.bl (!false)) m := nr rfl
theorem eq_sn : oEq (.str x) .non m = .ok (.bl false) m := nr rfl
theorem ne_sn : oNe (.str x) .non m = .ok (.bl (!false)) m := nr rfl
theorem eq_ii : oEq (.int a) (.int b) m = .ok (.bl (decide (a = b))) m := nr rfl
theorem ne_ii : oNe (.int a) (.int b) m = .ok (.bl (!decide (a = b))) m := nr rfl
theorem eq_bb : oEq (.bl p) (.bl q) m = .ok (.bl (decide (p = q))) m := nr rfl
theorem ne_bb : oNe (.bl p) (.bl q) m = .ok (.bl (!decide (p = q))) m := nr rfl
theorem eq_ss : oEq (.str x) (.str y) m = .ok (.bl (decide (x = y))) m := nr rfl
theorem ne_ss : oNe (.str x) (.str y) m = .ok (.bl (!decide (x = y))) m := nr rfl
theorem eq_is : oEq (.int a) (.str y) m = .ok (.bl false) m := nr rfl
theorem ne_is : oNe (.int a) (.str y) m = .ok (.bl (!false)) m := nr rfl
theorem eq_si : oEq (.str x) (.int b) m = .ok (.bl false) m := nr rfl
theorem ne_si : oNe (.str x) (.int b) m = .ok (.bl (!false)) m := nr rfl
theorem eq_bs : oEq (.bl p) (.str y) m = .ok (.bl false) m := nr rfl
theorem ne_bs : oNe (.bl p) (.str y) m = .ok (.bl (!false)) m := nr rfl
theorem eq_sb : oEq (.str x) (.bl q) m = .ok (.bl false) m := nr rfl
theorem ne_sb : oNe (.str x) (.bl q) m = .ok (.bl (!false)) m := nr rfl
theorem eq_tt : oEq (.tup xs) (.tup ys) m = match eqDat (.tup xs) (.tup ys) m with
  | some b => .ok (.bl b) m
  | none => .stuck := nr rfl
theorem ne_tt : oNe (.tup xs) (.tup ys) m = match eqDat (.tup xs) (.tup ys) m with
  | some b => .ok (.bl (!b)) m
  | none => .stuck := nr rfl
theorem eq_tl : oEq (.tup xs) (.lst ys) m = match eqDat (.tup xs) (.lst ys) m with
  | some b => .ok (.bl b) m
  | none => .stuck := nr rfl
theorem ne_tl : oNe (.tup xs) (.lst ys) m = match eqDat (.tup xs) (.lst ys) m with
  | some b => .ok (.bl (!b)) m
  | none => .stuck := nr rfl
theorem eq_tc : oEq (.tup xs) (.cell k) m = match eqDat (.tup xs) (.cell k) m with
  | some b => .ok (.bl b) m
  | none => .stuck := nr rfl
theorem ne_tc : oNe (.tup xs) (.cell k) m = match eqDat (.tup xs) (.cell k) m with
  | some b => .ok (.bl (!b)) m
  | none => .stuck := nr rfl
theorem eq_tn : oEq (.tup xs) .non m = match eqDat (.tup xs) .non m with
  | some b => .ok (.bl b) m
  | none => .stuck := nr rfl
theorem ne_tn : oNe (.tup xs) .non m = match eqDat (.tup xs) .non m with
  | some b => .ok (.bl (!b)) m
  | none => .stuck := nr rfl
theorem eq_lt : oEq (.lst xs) (.tup ys) m = match eqDat (.lst xs) (.tup ys) m with
  | some b => .ok (.bl b) m
  | none => .stuck := nr rfl
theorem ne_lt : oNe (.lst xs) (.tup ys) m = match eqDat (.lst xs) (.tup ys) m with
  | some b => .ok (.bl (!b)) m
  | none => .stuck := nr rfl
theorem eq_ll : oEq (.lst xs) (.lst ys) m = match eqDat (.lst xs) (.lst ys) m with
  | some b => .ok (.bl b) m
  | none => .stuck := nr rfl
theorem ne_ll : oNe (.lst xs) (.lst ys) m = match eqDat (.lst xs) (.lst ys) m with
  | some b => .ok (.bl (!b)) m
  | none => .stuck := nr rfl
theorem eq_lc : oEq (.lst xs) (.cell k) m = match eqDat (.lst xs) (.cell k) m with
  | some b => .ok (.bl b) m
  | none => .stuck := nr rfl
theorem ne_lc : oNe (.lst xs) (.cell k) m = match eqDat (.lst xs) (.cell k) m with
  | some b => .ok (.bl (!b)) m
  | none => .stuck := nr rfl
theorem eq_ln : oEq (.lst xs) .non m = match eqDat (.lst xs) .non m with
  | some b => .ok (.bl b) m
  | none => .stuck := nr rfl
theorem ne_ln : oNe (.lst xs) .non m = match eqDat (.lst xs) .non m with
  | some b => .ok (.bl (!b)) m
  | none => .stuck := nr rfl
theorem eq_ct : oEq (.cell n) (.tup ys) m = match eqDat (.cell n) (.tup ys) m with
  | some b => .ok (.bl b) m
  | none => .stuck := nr rfl
theorem ne_ct : oNe (.cell n) (.tup ys) m = match eqDat (.cell n) (.tup ys) m with
  | some b => .ok (.bl (!b)) m
  | none => .stuck := nr rfl
theorem eq_cl : oEq (.cell n) (.lst ys) m = match eqDat (.cell n) (.lst ys) m with
  | some b => .ok (.bl b) m
  | none => .stuck := nr rfl
theorem ne_cl : oNe (.cell n) (.lst ys) m = match eqDat (.cell n) (.lst ys) m with
  | some b => .ok (.bl (!b)) m
  | none => .stuck := nr rfl
theorem eq_cc : oEq (.cell n) (.cell k) m = match eqDat (.cell n) (.cell k) m with
  | some b => .ok (.bl b) m
  | none => .stuck := nr rfl
theorem ne_cc : oNe (.cell n) (.cell k) m = match eqDat (.cell n) (.cell k) m with
  | some b => .ok (.bl (!b)) m
  | none => .stuck := nr rfl
theorem eq_cn : oEq (.cell n) .non m = match eqDat (.cell n) .non m with
  | some b => .ok (.bl b) m
  | none => .stuck := nr rfl
theorem ne_cn : oNe (.cell n) .non m = match eqDat (.cell n) .non m with
  | some b => .ok (.bl (!b)) m
  | none => .stuck := nr rfl
theorem eq_nt : oEq .non (.tup ys) m = match eqDat .non (.tup ys) m with
  | some b => .ok (.bl b) m
  | none => .stuck := nr rfl
theorem ne_nt : oNe .non (.tup ys) m = match eqDat .non (.tup ys) m with
  | some b => .ok (.bl (!b)) m
  | none => .stuck := nr rfl
theorem eq_nl : oEq .non (.lst ys) m = match eqDat .non (.lst ys) m with
  | some b => .ok (.bl b) m
  | none => .stuck := nr rfl
theorem ne_nl : oNe .non (.lst ys) m = match eqDat .non (.lst ys) m with
  | some b => .ok (.bl (!b)) m
  | none => .stuck := nr rfl
theorem eq_nc : oEq .non (.cell k) m = match eqDat .non (.cell k) m with
  | some b => .ok (.bl b) m
  | none => .stuck := nr rfl
theorem ne_nc : oNe .non (.cell k) m = match eqDat .non (.cell k) m with
  | some b => .ok (.bl (!b)) m
  | none => .stuck := nr rfl
theorem isn_n : oIsN .non .non m = .ok (.bl true) m := nr rfl
theorem non_n : oNotN .non .non m = .ok (.bl (!true)) m := nr rfl
theorem isn_i : oIsN (.int a) .non m = .ok (.bl false) m := nr rfl
theorem non_i : oNotN (.int a) .non m = .ok (.bl (!false)) m := nr rfl
theorem isn_b : oIsN (.bl p) .non m = .ok (.bl false) m := nr rfl
theorem non_b : oNotN (.bl p) .non m = .ok (.bl (!false)) m := nr rfl
theorem isn_s : oIsN (.str x) .non m = .ok (.bl false) m := nr rfl
theorem non_s : oNotN (.str x) .non m = .ok (.bl (!false)) m := nr rfl
theorem isn_t : oIsN (.tup xs) .non m = .ok (.bl false) m := nr rfl
theorem non_t : oNotN (.tup xs) .non m = .ok (.bl (!false)) m := nr rfl
theorem isn_l : oIsN (.lst xs) .non m = .ok (.bl false) m := nr rfl
theorem non_l : oNotN (.lst xs) .non m = .ok (.bl (!false)) m := nr rfl
theorem isn_c : oIsN (.cell n) .non m = .ok (.bl false) m := nr rfl
theorem non_c : oNotN (.cell n) .non m = .ok (.bl (!false)) m := nr rfl
theorem isn_x : oIsN (.xls xs) .non m = .ok (.bl false) m := nr rfl
theorem non_x : oNotN (.xls xs) .non m = .ok (.bl (!false)) m := nr rfl
theorem tru_n : tru m .non = some false := nr rfl
theorem tru_b : tru m (.bl p) = some p := nr rfl
theorem tru_i : tru m (.int a) = some (a != 0) := nr rfl
theorem tru_t : tru m (.tup xs) = some (!xs.isEmpty) := nr rfl
theorem tru_l : tru m (.lst xs) = some (!xs.isEmpty) := nr rfl
theorem notv_b : oNotV (.bl p) m = .ok (.bl (!p)) m := nr rfl
theorem ix_t : oIx (.tup xs) (.int a) m = match atI xs a with
  | some z => .ok z m
  | none => .stuck := nr rfl
theorem ix_s : oIx (.str z) (.int a) m = if fits z.length = true then match atI z.cps.toList a with
  | some c => .ok (.str ⟨#[c]⟩) m
  | none => .stuck
  else .stuck := nr rfl
theorem ix_l : oIx (.lst xs) (.int a) m = match atI xs a with
  | some z => .ok z m
  | none => .stuck := nr rfl
theorem ix_x : oIx (.xls xs) (.int a) m = match atI xs a with
  | some z => .ok z m
  | none => .stuck := nr rfl
theorem ix_c : oIx (.cell n) (.int a) m = match lv m (.cell n) with
  | some xs => match atI xs a with
    | some z => .ok z m
    | none => .stuck
  | none => .stuck := nr rfl
theorem ixl_c : oIxL (.cell n) (.int a) m = match lv m (.cell n) with
  | some xs => match atI xs a with
    | some z => .ok z m
    | none => .stuck
  | none => .stuck := nr rfl
theorem sl_t : oSl c (.tup xs) lo hi m = .ok (.tup (cutL xs lo hi)) m := nr rfl
theorem sl_s : oSl c (.str z) lo hi m = if fits z.length = true then .ok (.str (cutS z lo hi)) m else .stuck := nr rfl
theorem sl_l : oSl c (.lst xs) lo hi m = mkL c (cutL xs lo hi) m := nr rfl
theorem sl_c : oSl c (.cell n) lo hi m = match lv m (.cell n) with
  | some xs => mkL c (cutL xs lo hi) m
  | none => .stuck := nr rfl
theorem rev_l : oRev c (.lst xs) m = mkL c xs.reverse m := nr rfl
theorem rev_c : oRev c (.cell n) m = match lv m (.cell n) with
  | some xs => mkL c xs.reverse m
  | none => .stuck := nr rfl
theorem len_t : oLen [.tup xs] m = .ok (.int (xs.length : Int)) m := nr rfl
theorem len_l : oLen [.lst xs] m = .ok (.int (xs.length : Int)) m := nr rfl
theorem len_x : oLen [.xls xs] m = .ok (.int (xs.length : Int)) m := nr rfl
theorem len_s : oLen [.str z] m = if fits z.length = true then .ok (.int (z.length : Int)) m else .stuck := nr rfl
theorem len_c : oLen [.cell n] m = match m[n]? with
    | some (.lst xs) => .ok (.int (xs.length : Int)) m
    | some (.dK kvs) => .ok (.int (kvs.length : Int)) m
    | _ => .stuck := nr rfl
theorem list_t : oList c [.tup xs] m = mkL c xs m := nr rfl
theorem list_l : oList c [.lst xs] m = mkL c xs m := nr rfl
theorem list_x : oList c [.xls xs] m = mkL c xs m := nr rfl
theorem list_c : oList c [.cell n] m = match lv m (.cell n) with
    | some xs => mkL c xs m
    | none => .stuck := nr rfl
theorem tuple_t : oTuple [.tup xs] m = .ok (.tup xs) m := nr rfl
theorem tuple_l : oTuple [.lst xs] m = .ok (.tup xs) m := nr rfl
theorem tuple_c : oTuple [.cell n] m = match lv m (.cell n) with
    | some xs => .ok (.tup xs) m
    | none => .stuck := nr rfl
theorem int_i : oInt [.int a] m = .ok (.int a) m := nr rfl
theorem int_b : oInt [.bl p] m = .ok (.int (if p then 1 else 0)) m := nr rfl
theorem abs_i : oAbs [.int a] m = .ok (.int (if a < 0 then -a else a)) m := nr rfl
theorem ord_s : oOrd [.str x] m = if x.length = 1 then .ok (.int (x.cps.getD 0 0 : Nat)) m else .stuck := nr rfl
theorem isi_n : oIsi [.non, .ty t] m = match kitB "NoneType" t with
      | some b => .ok (.bl b) m
      | none => .stuck := nr rfl
theorem isi_b : oIsi [(.bl p), .ty t] m = match kitB "bool" t with
      | some b => .ok (.bl b) m
      | none => .stuck := nr rfl
theorem isi_i : oIsi [(.int a), .ty t] m = match kitB "int" t with
      | some b => .ok (.bl b) m
      | none => .stuck := nr rfl
theorem isi_s : oIsi [(.str x), .ty t] m = match kitB "str" t with
      | some b => .ok (.bl b) m
      | none => .stuck := nr rfl
theorem isi_t : oIsi [(.tup xs), .ty t] m = match kitB "tuple" t with
      | some b => .ok (.bl b) m
      | none => .stuck := nr rfl
theorem isi_l : oIsi [(.lst xs), .ty t] m = match kitB "list" t with
      | some b => .ok (.bl b) m
      | none => .stuck := nr rfl
theorem isi_c : oIsi [.cell n, .ty t] m = match kindP m (.cell n) with
    | some k => match kitB k t with
      | some b => .ok (.bl b) m
      | none => .stuck
    | none => .stuck := nr rfl
theorem kindc : kindP m (.cell n) = match m[n]? with
    | some (.lst _) => some "list"
    | some (.dK _) => some "dict"
    | some (.dT _) => some "dict"
    | _ => none := nr rfl
theorem max_ii : oMax2 [.int a, .int b] m = .ok (.int (if b > a then b else a)) m := nr rfl
theorem min_ii : oMin2 [.int a, .int b] m = .ok (.int (if b < a then b else a)) m := nr rfl
theorem app_c : oAppend (.cell n) [d] m = match m[n]? with
    | some (.lst xs) => if decide (xs.length < 100000) = true then .ok .non (m.set n (.lst (xs ++ [d]))) else .stuck
    | _ => .stuck := nr rfl
theorem ext_c : oExtend (.cell n) [d] m = match m[n]?, lw m d with
    | some (.lst xs), some ys => if fits (xs.length + ys.length) = true then .ok .non (m.set n (.lst (xs ++ ys))) else .stuck
    | _, _ => .stuck := nr rfl
theorem set_c : oSet (.cell n) (.int a) d m = match m[n]? with
    | some (.lst xs) => match ixN xs.length a with
      | some j => some (m.set n (.lst (xs.set j d)))
      | none => none
    | _ => none := nr rfl
theorem join_l : oJoin (.str x) (.lst xs) m = match strsP xs with
    | some ys => if decide ((ys.map (·.length)).sum + ys.length * x.length ≤ 16777216) = true then .ok (.str (Txt.join x ys)) m else .stuck
    | none => .stuck := nr rfl
theorem sidx_ss : oSIndex (.str x) [.str y] m = match Builtin.Str.occurrences x y 0 x.length 1 with
    | i :: _ => .ok (.int (i : Nat)) m
    | [] => .stuck := nr rfl
theorem cm_ii : oCm .lt (.int a) (.int b) m = .ok (.bl (decide (a < b))) m := nr rfl
theorem cm_ile : oCm .le (.int a) (.int b) m = .ok (.bl (decide (a ≤ b))) m := nr rfl
theorem cm_igt : oCm .gt (.int a) (.int b) m = .ok (.bl (decide (b < a))) m := nr rfl
theorem cm_ige : oCm .ge (.int a) (.int b) m = .ok (.bl (decide (b ≤ a))) m := nr rfl
theorem isl_l : isL m (.lst xs) = true := nr rfl
theorem isl_c : isL m (.cell n) = (lv m (.cell n)).isSome := nr rfl
theorem isl_s : isL m (.str x) = false := nr rfl
theorem iss_s : isS m (.str x) = true := nr rfl
theorem iss_l : isS m (.lst xs) = false := nr rfl
end
section
variable {m m' : M} {d : P} {ρ : Env} {c : Str} {fs : List (Str × P)}
theorem fin_rt : finish true m (.rt d m') = cutV' m d m' := nr rfl
theorem fin_nx : finish true m (.nx ρ m') = cutV' m .non m' := nr rfl
theorem fin_st : finish true m .stuck = .stuck := nr rfl
end

/-! ### from the left, one at a time -/
def rngOk (j : Int) : Bool := decide (-(2 ^ 62) ≤ j ∧ j < 2 ^ 62)
def rngOk2 (i j : Int) : Bool := decide (-(2 ^ 62) ≤ i ∧ i < 2 ^ 62 ∧ -(2 ^ 62) ≤ j ∧ j < 2 ^ 62)
theorem rngOk_of {j : Int} (h : 0 ≤ j) (h2 : j ≤ 100000) : rngOk j = true := decide_eq_true (by omega)
theorem rngOk2_of {i j : Int} (g : 0 ≤ i) (g2 : i ≤ 100000) (h : 0 ≤ j) (h2 : j ≤ 100000) : rngOk2 i j = true := decide_eq_true (by omega)
def Out.next (o : Out) (g : FS) : Out := match o with
  | .nx ρ m => g ρ m
  | o => o
section
variable {m : M} {ρ : Env} {f g : FS} {fa fb fc fe fo fi fv : FE} {fl : FA} {ta tb : FT} {d : P} {i n : Nat} {o o2 : P → P → M → Res P} {u : P → M → Res P} {ol : List P → M → Res P} {c : Bool} {tg : Tg} {fs : List (Str × P)} {C : Str} {ff : FI} {fp fh : FO} {vs : List Nat} {ty ty2 : M → P → Bool} {om om2 : P → List P → M → Res P} {fn : FN} {ds : List P}
theorem nx_nx : (Out.nx ρ m).next g = g ρ m := nr rfl
theorem nx_rt : (Out.rt d m).next g = .rt d m := nr rfl
theorem nx_bk : (Out.bk ρ m).next g = .bk ρ m := nr rfl
theorem nx_ct : (Out.ct ρ m).next g = .ct ρ m := nr rfl
theorem nx_ex : (Out.exc C fs ρ m).next g = .exc C fs ρ m := nr rfl
theorem nx_st : (Out.stuck).next g = .stuck := nr rfl
theorem e_seq : fSeq f g ρ m = (f ρ m).next g := by unfold fSeq Out.next; cases f ρ m <;> rfl
theorem e_var : fVar i ρ m = match ρ[i]? with
  | some (some d) => .ok d m
  | _ => .stuck := nr rfl
theorem e_c : fC d ρ m = .ok d m := nr rfl
theorem e_op : fOp o fa fb ρ m = (fa ρ m).bind fun d m1 => (fb ρ m1).bind fun e m2 => o d e m2 := nr rfl
theorem e_un : fUn u fa ρ m = (fa ρ m).bind fun d m1 => u d m1 := nr rfl
theorem e_nil : fNil ρ m = .ok [] m := nr rfl
theorem e_cons : fCons fa fl ρ m = (fa ρ m).bind fun d m1 => (fl ρ m1).bind fun ds m2 => .ok (d :: ds) m2 := nr rfl
theorem e_call : fCall ol fl ρ m = (fl ρ m).bind fun ds m1 => ol ds m1 := nr rfl
theorem e_tup : fTup fl ρ m = (fl ρ m).bind fun ds m1 => oTup ds m1 := nr rfl
theorem e_lst : fLst c fl ρ m = (fl ρ m).bind fun ds m1 => oLst c ds m1 := nr rfl
theorem e_otup : oTup ds m = if fits ds.length = true then .ok (.tup ds) m else .stuck := nr rfl
theorem e_olst : oLst c ds m = if fits ds.length = true then mkL c ds m else .stuck := nr rfl
theorem e_gd : gd n fn ds m = if ds.length = n then fn ds m else .stuck := nr rfl
theorem e_asg : fAsg tg fe ρ m = (fe ρ m).outs ρ fun d m1 => match tg.put d ρ with
  | some ρ' => .nx ρ' m1
  | none => .stuck := nr rfl
theorem e_drop : fDrop fe ρ m = (fe ρ m).outs ρ fun _ m1 => .nx ρ m1 := nr rfl
theorem e_ret : fRet fe ρ m = (fe ρ m).outs ρ fun d m1 => .rt d m1 := nr rfl
theorem e_retN : fRetN ρ m = .rt .non m := nr rfl
theorem e_next : fNext ρ m = .nx ρ m := nr rfl
theorem e_brk : fBrk ρ m = .bk ρ m := nr rfl
theorem e_cont : fCont ρ m = .ct ρ m := nr rfl
theorem e_ifs : fIfS ta f g ρ m = (ta ρ m).outs ρ fun b m1 => if b = true then f ρ m1 else g ρ m1 := nr rfl
theorem e_ifT {m' : M} (h : ta ρ m = .ok true m') : fIfS ta f g ρ m = f ρ m' := by rw [e_ifs, h]; rfl
theorem e_ifF {m' : M} (h : ta ρ m = .ok false m') : fIfS ta f g ρ m = g ρ m' := by rw [e_ifs, h]; rfl
theorem e_ifB {m' : M} {b : Bool} (h : ta ρ m = .ok b m') : fIfS ta f g ρ m = if b = true then f ρ m' else g ρ m' := by rw [e_ifs, h]; rfl
theorem e_setS : fSetS fo fi fv ρ m = (fv ρ m).outs ρ fun v m1 => (fo ρ m1).outs ρ fun d m2 => (fi ρ m2).outs ρ fun i m3 => match oSet d i v m3 with
  | some m4 => .nx ρ m4
  | none => .stuck := nr rfl
theorem e_aug : fAug i o fe ρ m = match ρ[i]? with
  | some (some d) => (fe ρ m).outs ρ fun e m1 => (o d e m1).outs ρ fun z m2 => .nx (ρ.set i (some z)) m2
  | _ => .stuck := nr rfl
theorem e_augS : fAugS fo fi o fe ρ m = (fo ρ m).outs ρ fun d m1 => (fi ρ m1).outs ρ fun i m2 => (oIxL d i m2).outs ρ fun x m3 => (fe ρ m3).outs ρ fun e m4 => (o x e m4).outs ρ fun z m5 => match oSet d i z m5 with
  | some m6 => .nx ρ m6
  | none => .stuck := nr rfl
theorem e_tru : fTru fe ρ m = (fe ρ m).bind fun d m1 => match tru m1 d with
  | some b => .ok b m1
  | none => .stuck := nr rfl
theorem e_bl : fBl fe ρ m = (fe ρ m).bind fun d m1 => match d with
  | .bl b => .ok b m1
  | _ => .stuck := nr rfl
theorem e_and : fAnd ta tb ρ m = (ta ρ m).bind fun b m1 => if b = true then tb ρ m1 else .ok false m1 := nr rfl
theorem e_or : fOr ta tb ρ m = (ta ρ m).bind fun b m1 => if b = true then .ok true m1 else tb ρ m1 := nr rfl
theorem e_not : fNot ta ρ m = (ta ρ m).bind fun b m1 => .ok (!b) m1 := nr rfl
theorem e_andV : fAndV fa fb ρ m = (fa ρ m).bind fun d m1 => match tru m1 d with
  | some true => fb ρ m1
  | some false => .ok d m1
  | none => .stuck := nr rfl
theorem e_orV : fOrV fa fb ρ m = (fa ρ m).bind fun d m1 => match tru m1 d with
  | some true => .ok d m1
  | some false => fb ρ m1
  | none => .stuck := nr rfl
theorem e_notV : fNotV fa ρ m = (fa ρ m).bind fun d m1 => oNotV d m1 := nr rfl
theorem e_if : fIf ta fa fb ρ m = (ta ρ m).bind fun b m1 => if b = true then fa ρ m1 else fb ρ m1 := nr rfl
theorem e_chain : fChain o o2 fa fb fc ρ m = (fa ρ m).bind fun x m1 => (fb ρ m1).bind fun y m2 => (o x y m2).bind fun z m3 => match z with
  | .bl true => (fc ρ m3).bind fun w m4 => o2 y w m4
  | .bl false => .ok (.bl false) m3
  | _ => .stuck := nr rfl
theorem e_nop : fNoPart ρ m = .ok none m := nr rfl
theorem e_part : fPart fe ρ m = (fe ρ m).bind fun d m1 => match d with
  | .int i => .ok (some i) m1
  | _ => .stuck := nr rfl
theorem e_sl : fSl c fe fp fh ρ m = (fe ρ m).bind fun d m1 => (fp ρ m1).bind fun l m2 => (fh ρ m2).bind fun h m3 => oSl c d l h m3 := nr rfl
theorem e_iSeq : iSeq fe ρ m = (fe ρ m).bind fun d m1 => match d with
  | .tup xs => .ok ⟨xs, []⟩ m1
  | .lst xs => .ok ⟨xs, []⟩ m1
  | .xls xs => .ok ⟨xs, []⟩ m1
  | .str z => .ok ⟨z.cps.toList.map fun c => .str ⟨#[c]⟩, []⟩ m1
  | .cell n => match m1[n]? with
    | some (.lst xs) => .ok ⟨xs, [(n, xs)]⟩ m1
    | _ => .stuck
  | _ => .stuck := nr rfl
theorem e_iR1 : iR1 fl ρ m = (fl ρ m).bind fun ds m1 => match ds with
  | [.int j] => if rngOk j = true then .ok ⟨rngP 0 j.toNat, []⟩ m1 else .stuck
  | _ => .stuck := nr rfl
theorem e_iR2 : iR2 fl ρ m = (fl ρ m).bind fun ds m1 => match ds with
  | [.int i, .int j] => if rngOk2 i j = true then .ok ⟨rngP i (j - i).toNat, []⟩ m1 else .stuck
  | _ => .stuck := nr rfl
theorem e_for : fFor ff tg f ρ m = (ff ρ m).outs ρ fun s m1 => forG tg f s.chk s.items ρ m1 := nr rfl
theorem e_lc : fLc c ff tg ta fe vs ρ m = (ff ρ m).bind fun s m1 => if fits s.items.length = true then (lcG tg ta fe s.chk (wipeP ρ vs) s.items m1).bind fun ys m2 => mkL c ys m2 else .stuck := nr rfl
theorem e_yes : fYes ρ m = .ok true m := nr rfl
theorem e_mt : fMt ty om fo fl ρ m = (fo ρ m).bind fun d m1 => if ty m1 d = true then (fl ρ m1).bind fun ds m2 => om d ds m2 else .stuck := nr rfl
theorem e_mt2 : fMt2 ty ty2 om om2 fo fl ρ m = (fo ρ m).bind fun d m1 => if ty m1 d = true then (fl ρ m1).bind fun ds m2 => om d ds m2 else if ty2 m1 d = true then (fl ρ m1).bind fun ds m2 => om2 d ds m2 else .stuck := nr rfl
theorem e_join : fJoin fo fe ρ m = (fo ρ m).bind fun d m1 => if isS m1 d = true then (fe ρ m1).bind fun e m2 => oJoin d e m2 else .stuck := nr rfl
theorem e_put : (Tg.name i).put d ρ = some (ρ.set i (some d)) := nr rfl
theorem e_fits : fits n = decide (n ≤ 100000) := nr rfl
end
end
/-! NF -/
section
open PySem PySem.Spec PyProof.Rows
/-! NF: one-step lemmas of objects, raise, try, raising comprehensions -/
section
variable {m m' : M} {ρ : Env} {C f mm c : Str} {fs : List (Str × P)} {fo fv fe : FE} {fr : FA} {o : P → P → M → Res P} {k n : Nat} {fn : FN} {z d : P} {ds : List P} {ct : Str → Option Bool} {i : Nat} {fb : FS} {fh : Str → List (Str × P) → FS} {cc : Bool} {fi : FI} {g : Tg} {tt : FT} {te : FE} {vs : List Nat}
theorem fin_ex : finish true m (.exc c fs ρ m') = cutX m c fs m' := nr rfl
theorem cutX_nil (h : OkCut m m') : cutX m c [] m' = .exc c [] (m'.take m.length) := by unfold cutX; rw [if_pos h]; rfl
theorem e_fld : fFld C f fo ρ m = (fo ρ m).bind fun d m1 => oFld C f d m1 := nr rfl
theorem fld_at (h : m[n]? = some (.ins C fs)) (g : fget f fs = some z) : oFld C f (.cell n) m = .ok z m := by simp [oFld, insv, h, g]
theorem insv_at (h : m[n]? = some (.ins C fs)) : insv m (.cell n) = some (C, fs) := by simp [insv, h]
theorem putF_at (h : m[n]? = some (.ins C fs)) (g : fs.length < 1000) : oPutF C f (.cell n) z m = some (m.set n (.ins C (fput f z fs))) := by simp [oPutF, h, g]
theorem e_setF : fSetF C f fo fv ρ m = (fv ρ m).outs ρ fun v m1 => (fo ρ m1).outs ρ fun d m2 => match oPutF C f d v m2 with
  | some m3 => .nx ρ m3
  | none => .stuck := nr rfl
theorem e_augF : fAugF C f fo o fe ρ m = (fo ρ m).outs ρ fun d m1 => (oFld C f d m1).outs ρ fun x m2 => (fe ρ m2).outs ρ fun e m3 => (o x e m3).outs ρ fun z m4 => match oPutF C f d z m4 with
  | some m5 => .nx ρ m5
  | none => .stuck := nr rfl
theorem e_meth : fMeth C mm k fn fo fr ρ m = (fo ρ m).bind fun d m1 => match insv m1 d with
  | some (C', fs) => if C' = C then match fget mm fs with
    | none => (fr ρ m1).bind fun ds m2 => gd k fn (d :: ds) m2
    | some _ => .stuck
    else .stuck
  | none => .stuck := nr rfl
/-- a method of a cell -/
theorem e_methC {m1 m2 : M} (ho : fo ρ m = .ok (.cell n) m1) (h : m1[n]? = some (.ins C fs)) (g : fget mm fs = none) (hr : fr ρ m1 = .ok ds m2) (hk : ds.length + 1 = k) : fMeth C mm k fn fo fr ρ m = fn (.cell n :: ds) m2 := by
  rw [e_meth, ho, b_ok, insv_at h]
  simp only [if_true, g, hr, b_ok, gd, List.length_cons, hk]
/-- .. whose arguments raise -/
theorem e_methX {m1 m2 : M} (ho : fo ρ m = .ok (.cell n) m1) (h : m1[n]? = some (.ins C fs)) (g : fget mm fs = none) (hr : fr ρ m1 = .exc c [] m2) : fMeth C mm k fn fo fr ρ m = .exc c [] m2 := by
  rw [e_meth, ho, b_ok, insv_at h]
  simp only [if_true, g, hr, b_ex]
theorem e_make : fMake C k fn fr ρ m = (fr ρ m).bind fun ds m1 => (gd k fn (.cell m1.length :: ds) (m1 ++ [.ins C []])).bind fun z m2 => match z with
  | .non => .ok (.cell m1.length) m2
  | _ => .stuck := nr rfl
theorem e_raise : fRaise c ρ m = .exc c [] ρ m := nr rfl
theorem e_try : fTry ct (some i) fb fh ρ m = match fb ρ m with
  | .exc c fs ρ1 m1 => match ct c with
    | some true => if i < ρ1.length then match fh c fs (ρ1.set i none) m1 with
        | .nx ρ2 m2 => .nx (ρ2.set i none) m2
        | .bk ρ2 m2 => .bk (ρ2.set i none) m2
        | .ct ρ2 m2 => .ct (ρ2.set i none) m2
        | .rt d m2 => .rt d m2
        | _ => .stuck
        else .stuck
    | some false => .exc c fs ρ1 m1
    | none => .stuck
  | o => o := nr rfl
theorem e_tryN {ρ1 : Env} (h : fb ρ m = .nx ρ1 m') : fTry ct (some i) fb fh ρ m = .nx ρ1 m' := by rw [e_try, h]
theorem e_tryR (h : fb ρ m = .rt d m') : fTry ct (some i) fb fh ρ m = .rt d m' := by rw [e_try, h]
theorem e_isE {b : Bool} : fIsE (some b) [] ρ m = .ok (.bl b) m := nr rfl
theorem lcX_nil : lcX g tt te [] ρ [] m = .ok [] m := by rw [lcX, if_pos chk0]
theorem lcX_cons {x : P} {xs : List P} : lcX g tt te [] ρ (x :: xs) m = match g.put x ρ with
    | some ρ1 => (tt ρ1 m).calm.bind fun b m1 => if b = true then (te ρ1 m1).bind fun y m2 => (lcX g tt te [] ρ xs m2).bind fun ys m3 => .ok (y :: ys) m3 else lcX g tt te [] ρ xs m1
    | none => .stuck := by rw [lcX, if_pos chk0] <;> rfl
theorem e_lcX : fLcX cc fi g tt te vs ρ m = (fi ρ m).bind fun s m1 => if fits s.items.length = true then (lcX g tt te s.chk (wipeP ρ vs) s.items m1).bind fun ys m2 => mkL cc ys m2 else .stuck := nr rfl
end

end
/-! G -/
section
open PySem PySem.Spec PyProof.Rows
def topS (i : Nat) : Stmt := PySem.Challenge.pw_sameanswer_k02_bytes_of_pages.main.body.getD i (.Pass ⟨0, 0, 0, 0⟩)
abbrev s_bytes_of : Stmt := topS 12
abbrev s_key_of : Stmt := topS 13
abbrev s_character_of : Stmt := topS 14
abbrev s_integer_at : Stmt := topS 15
abbrev s_text_at : Stmt := topS 16
abbrev s_values_of : Stmt := topS 17
abbrev s_entry_bytes : Stmt := topS 22
abbrev s_child_bytes : Stmt := topS 23
abbrev s_write_page : Stmt := topS 24
abbrev s_PageReader_init : Stmt := inClass (topS 25) 0
abbrev s_PageReader_need : Stmt := inClass (topS 25) 1
abbrev s_PageReader_read_bytes : Stmt := inClass (topS 25) 2
abbrev s_PageReader_read_byte : Stmt := inClass (topS 25) 3
abbrev s_PageReader_read_key : Stmt := inClass (topS 25) 4
abbrev s_PageReader_read_entry : Stmt := inClass (topS 25) 5
abbrev s_PageReader_read_child : Stmt := inClass (topS 25) 6
abbrev s_PageReader_read_end : Stmt := inClass (topS 25) 7
abbrev s_read_page : Stmt := topS 26
abbrev s_next : Stmt := topS 28
abbrev s_same : Stmt := topS 29
abbrev s_value : Stmt := topS 30
abbrev s_characters : Stmt := topS 31
abbrev s_bytes : Stmt := topS 32
abbrev s_page_bytes : Stmt := topS 33
abbrev s_key : Stmt := topS 34
abbrev s_page : Stmt := topS 35
abbrev s_tried : Stmt := topS 36
abbrev s_law : Stmt := topS 37
def D_bytes_of : He.DefD := ⟨("bytes_of", none), "bytes_of", "bytes_of", defArgs s_bytes_of, defBody s_bytes_of, defScope s_bytes_of, [], []⟩
def D_key_of : He.DefD := ⟨("key_of", none), "key_of", "key_of", defArgs s_key_of, defBody s_key_of, defScope s_key_of, [], []⟩
def D_character_of : He.DefD := ⟨("character_of", none), "character_of", "character_of", defArgs s_character_of, defBody s_character_of, defScope s_character_of, [], []⟩
def D_integer_at : He.DefD := ⟨("integer_at", none), "integer_at", "integer_at", defArgs s_integer_at, defBody s_integer_at, defScope s_integer_at, [], []⟩
def D_text_at : He.DefD := ⟨("text_at", none), "text_at", "text_at", defArgs s_text_at, defBody s_text_at, defScope s_text_at, [], []⟩
def D_values_of : He.DefD := ⟨("values_of", none), "values_of", "values_of", defArgs s_values_of, defBody s_values_of, defScope s_values_of, [], []⟩
def D_entry_bytes : He.DefD := ⟨("entry_bytes", none), "entry_bytes", "entry_bytes", defArgs s_entry_bytes, defBody s_entry_bytes, defScope s_entry_bytes, [], []⟩
def D_child_bytes : He.DefD := ⟨("child_bytes", none), "child_bytes", "child_bytes", defArgs s_child_bytes, defBody s_child_bytes, defScope s_child_bytes, [], []⟩
def D_write_page : He.DefD := ⟨("write_page", none), "write_page", "write_page", defArgs s_write_page, defBody s_write_page, defScope s_write_page, [], []⟩
def D_PageReader_init : He.DefD := ⟨("PageReader", some "__init__"), "__init__", "PageReader.__init__", defArgs s_PageReader_init, defBody s_PageReader_init, defScope s_PageReader_init, [], []⟩
def D_PageReader_need : He.DefD := ⟨("PageReader", some "need"), "need", "PageReader.need", defArgs s_PageReader_need, defBody s_PageReader_need, defScope s_PageReader_need, [], []⟩
def D_PageReader_read_bytes : He.DefD := ⟨("PageReader", some "read_bytes"), "read_bytes", "PageReader.read_bytes", defArgs s_PageReader_read_bytes, defBody s_PageReader_read_bytes, defScope s_PageReader_read_bytes, [], []⟩
def D_PageReader_read_byte : He.DefD := ⟨("PageReader", some "read_byte"), "read_byte", "PageReader.read_byte", defArgs s_PageReader_read_byte, defBody s_PageReader_read_byte, defScope s_PageReader_read_byte, [], []⟩
def D_PageReader_read_key : He.DefD := ⟨("PageReader", some "read_key"), "read_key", "PageReader.read_key", defArgs s_PageReader_read_key, defBody s_PageReader_read_key, defScope s_PageReader_read_key, [], []⟩
def D_PageReader_read_entry : He.DefD := ⟨("PageReader", some "read_entry"), "read_entry", "PageReader.read_entry", defArgs s_PageReader_read_entry, defBody s_PageReader_read_entry, defScope s_PageReader_read_entry, [], []⟩
def D_PageReader_read_child : He.DefD := ⟨("PageReader", some "read_child"), "read_child", "PageReader.read_child", defArgs s_PageReader_read_child, defBody s_PageReader_read_child, defScope s_PageReader_read_child, [], []⟩
def D_PageReader_read_end : He.DefD := ⟨("PageReader", some "read_end"), "read_end", "PageReader.read_end", defArgs s_PageReader_read_end, defBody s_PageReader_read_end, defScope s_PageReader_read_end, [], []⟩
def D_read_page : He.DefD := ⟨("read_page", none), "read_page", "read_page", defArgs s_read_page, defBody s_read_page, defScope s_read_page, [], []⟩
def D_next : He.DefD := ⟨("_law_next", none), "_law_next", "_law_next", defArgs s_next, defBody s_next, defScope s_next, [], []⟩
def D_same : He.DefD := ⟨("_law_same", none), "_law_same", "_law_same", defArgs s_same, defBody s_same, defScope s_same, [], []⟩
def D_value : He.DefD := ⟨("_law_value", none), "_law_value", "_law_value", defArgs s_value, defBody s_value, defScope s_value, [], []⟩
def D_characters : He.DefD := ⟨("_law_characters", none), "_law_characters", "_law_characters", defArgs s_characters, defBody s_characters, defScope s_characters, [], []⟩
def D_bytes : He.DefD := ⟨("_law_bytes", none), "_law_bytes", "_law_bytes", defArgs s_bytes, defBody s_bytes, defScope s_bytes, [], []⟩
def D_page_bytes : He.DefD := ⟨("_law_page_bytes", none), "_law_page_bytes", "_law_page_bytes", defArgs s_page_bytes, defBody s_page_bytes, defScope s_page_bytes, [], []⟩
def D_key : He.DefD := ⟨("_law_key", none), "_law_key", "_law_key", defArgs s_key, defBody s_key, defScope s_key, [], []⟩
def D_page : He.DefD := ⟨("_law_page", none), "_law_page", "_law_page", defArgs s_page, defBody s_page, defScope s_page, [], []⟩
def D_tried : He.DefD := ⟨("_law_tried", none), "_law_tried", "_law_tried", defArgs s_tried, defBody s_tried, defScope s_tried, [], []⟩
def D_law : He.DefD := ⟨("law", none), "law", "law", defArgs s_law, defBody s_law, defScope s_law, [], []⟩
def fnL : List He.DefD := [D_bytes_of, D_key_of, D_character_of, D_integer_at, D_text_at, D_values_of, D_entry_bytes, D_child_bytes, D_write_page, D_PageReader_init, D_PageReader_need, D_PageReader_read_bytes, D_PageReader_read_byte, D_PageReader_read_key, D_PageReader_read_entry, D_PageReader_read_child, D_PageReader_read_end, D_read_page, D_next, D_same, D_value, D_characters, D_bytes, D_page_bytes, D_key, D_page, D_tried, D_law]
def faL : List He.Fa := [.glo "bytes_of", .glo "key_of", .glo "character_of", .glo "integer_at", .glo "text_at", .glo "values_of", .glo "entry_bytes", .glo "child_bytes", .glo "write_page", .glo "read_page", .glo "_law_next", .glo "_law_same", .glo "_law_value", .glo "_law_characters", .glo "_law_bytes", .glo "_law_page_bytes", .glo "_law_key", .glo "_law_page", .glo "_law_tried", .glo "law", .glo "AnswerError", .glo "DamagedData", .glo "PageReader", .int "INTEGER" 1, .int "TEXT" 2, .int "NUMBER_BYTES" 5, .int "SHIFT" 549755813888, .int "BOUND" 1000000000, .int "MOST_CHARACTERS" 6, .str "BEFORE_PERCENT" " !\"#$", .str "AFTER_PERCENT" "&'()*+,-./0123456789:;<=>?@ABCDEFGHIJKLMNOPQRSTUVWXYZ[\\]^_`abcdefghijklmnopqrstuvwxyz{|}~", .int "PAGE" 256, .int "LEAF" 0, .int "INNER" 1, .free "ValueError", .free "bool", .free "int", .free "isinstance", .free "len", .free "list", .free "ord", .free "range", .free "str", .free "tuple", .exc "AnswerError", .exc "DamagedData", .cls "PageReader", .mkr "PageReader", .noat "PageReader" "data", .noat "PageReader" "at", .meth "PageReader" "need", .meth "PageReader" "read_bytes", .meth "PageReader" "read_byte", .meth "PageReader" "read_key", .meth "PageReader" "read_entry", .meth "PageReader" "read_child", .meth "PageReader" "read_end", .exm "DamagedData" "AnswerError" true]
def exOf (K : PySem.W.Frag) (c : Str) : Bool :=
  decide (PySem.W.findIn K (.ref (He.ga K c)) "__getattribute__" = some (some (.builtin "BaseException.__getattribute__"))) && (decide (PySem.W.findIn K (.ref (He.ga K c)) "__getattr__" = some none) &&
  (decide (PySem.W.subIn K (.ref (He.ga K c)) (.type "BaseException") = some true) && (PySem.W.hasDictIn K (He.ga K c) && (decide (PySem.W.findIn K (.ref (He.ga K c)) "__class__" = some (some (.builtin "object.__class__"))) &&
  (decide (PySem.W.specialIn K (.builtin "object.__class__") "__get__" = some (some (.builtin "getset_descriptor.__get__"))) && (decide (PySem.W.takesIn K (.builtin "object.__class__") = some true) && decide (PySem.W.mroIn K (He.ga K c) (.type "object") = some true)))))))
theorem exOf_ok {K : PySem.W.Frag} {c : Str} (h : exOf K c = true) : ExcC K (He.ga K c) := by
  unfold exOf at h
  simp only [Bool.and_eq_true, decide_eq_true_eq] at h
  obtain ⟨h1, h2, h3, h4, h5, h6, h7, h8⟩ := h
  exact ⟨h1, h2, h3, h4, h5, h6, h7, h8⟩
def exK (K : PySem.W.Frag) : Bool := (exOf K "DamagedData" && (decide (PySem.W.kitOne K (.ref (He.ga K "DamagedData")) (.ref (He.ga K "DamagedData")) = some true) && (decide (PySem.W.kitOne K (.ref (He.ga K "DamagedData")) (.type "ValueError") = some true) &&  true)))
structure Tx (K : PySem.W.Frag) (mg : Str → Option Value) : Prop where
  c : He.SaysD faL fnL K
  ns : ∃ h : Heap, K.In h ∧ h.Ns mainGlobals mg
  ex : exK K = true
section
variable {K : PySem.W.Frag} {mg : Str → Option Value}
theorem Tx.g_bytes_of (T : Tx K mg) : mg "bytes_of" = some (.ref (He.ga K "bytes_of")) := by
  obtain ⟨h, X, G⟩ := T.ns
  exact He.glo_ok X G (T.c.fact 0 (f := .glo "bytes_of") rfl)
theorem Tx.g_key_of (T : Tx K mg) : mg "key_of" = some (.ref (He.ga K "key_of")) := by
  obtain ⟨h, X, G⟩ := T.ns
  exact He.glo_ok X G (T.c.fact 1 (f := .glo "key_of") rfl)
theorem Tx.g_character_of (T : Tx K mg) : mg "character_of" = some (.ref (He.ga K "character_of")) := by
  obtain ⟨h, X, G⟩ := T.ns
  exact He.glo_ok X G (T.c.fact 2 (f := .glo "character_of") rfl)
theorem Tx.g_integer_at (T : Tx K mg) : mg "integer_at" = some (.ref (He.ga K "integer_at")) := by
  obtain ⟨h, X, G⟩ := T.ns
  exact He.glo_ok X G (T.c.fact 3 (f := .glo "integer_at") rfl)
theorem Tx.g_text_at (T : Tx K mg) : mg "text_at" = some (.ref (He.ga K "text_at")) := by
  obtain ⟨h, X, G⟩ := T.ns
  exact He.glo_ok X G (T.c.fact 4 (f := .glo "text_at") rfl)
theorem Tx.g_values_of (T : Tx K mg) : mg "values_of" = some (.ref (He.ga K "values_of")) := by
  obtain ⟨h, X, G⟩ := T.ns
  exact He.glo_ok X G (T.c.fact 5 (f := .glo "values_of") rfl)
theorem Tx.g_entry_bytes (T : Tx K mg) : mg "entry_bytes" = some (.ref (He.ga K "entry_bytes")) := by
  obtain ⟨h, X, G⟩ := T.ns
  exact He.glo_ok X G (T.c.fact 6 (f := .glo "entry_bytes") rfl)
theorem Tx.g_child_bytes (T : Tx K mg) : mg "child_bytes" = some (.ref (He.ga K "child_bytes")) := by
  obtain ⟨h, X, G⟩ := T.ns
  exact He.glo_ok X G (T.c.fact 7 (f := .glo "child_bytes") rfl)
theorem Tx.g_write_page (T : Tx K mg) : mg "write_page" = some (.ref (He.ga K "write_page")) := by
  obtain ⟨h, X, G⟩ := T.ns
  exact He.glo_ok X G (T.c.fact 8 (f := .glo "write_page") rfl)
theorem Tx.g_read_page (T : Tx K mg) : mg "read_page" = some (.ref (He.ga K "read_page")) := by
  obtain ⟨h, X, G⟩ := T.ns
  exact He.glo_ok X G (T.c.fact 9 (f := .glo "read_page") rfl)
theorem Tx.g_next (T : Tx K mg) : mg "_law_next" = some (.ref (He.ga K "_law_next")) := by
  obtain ⟨h, X, G⟩ := T.ns
  exact He.glo_ok X G (T.c.fact 10 (f := .glo "_law_next") rfl)
theorem Tx.g_same (T : Tx K mg) : mg "_law_same" = some (.ref (He.ga K "_law_same")) := by
  obtain ⟨h, X, G⟩ := T.ns
  exact He.glo_ok X G (T.c.fact 11 (f := .glo "_law_same") rfl)
theorem Tx.g_value (T : Tx K mg) : mg "_law_value" = some (.ref (He.ga K "_law_value")) := by
  obtain ⟨h, X, G⟩ := T.ns
  exact He.glo_ok X G (T.c.fact 12 (f := .glo "_law_value") rfl)
theorem Tx.g_characters (T : Tx K mg) : mg "_law_characters" = some (.ref (He.ga K "_law_characters")) := by
  obtain ⟨h, X, G⟩ := T.ns
  exact He.glo_ok X G (T.c.fact 13 (f := .glo "_law_characters") rfl)
theorem Tx.g_bytes (T : Tx K mg) : mg "_law_bytes" = some (.ref (He.ga K "_law_bytes")) := by
  obtain ⟨h, X, G⟩ := T.ns
  exact He.glo_ok X G (T.c.fact 14 (f := .glo "_law_bytes") rfl)
theorem Tx.g_page_bytes (T : Tx K mg) : mg "_law_page_bytes" = some (.ref (He.ga K "_law_page_bytes")) := by
  obtain ⟨h, X, G⟩ := T.ns
  exact He.glo_ok X G (T.c.fact 15 (f := .glo "_law_page_bytes") rfl)
theorem Tx.g_key (T : Tx K mg) : mg "_law_key" = some (.ref (He.ga K "_law_key")) := by
  obtain ⟨h, X, G⟩ := T.ns
  exact He.glo_ok X G (T.c.fact 16 (f := .glo "_law_key") rfl)
theorem Tx.g_page (T : Tx K mg) : mg "_law_page" = some (.ref (He.ga K "_law_page")) := by
  obtain ⟨h, X, G⟩ := T.ns
  exact He.glo_ok X G (T.c.fact 17 (f := .glo "_law_page") rfl)
theorem Tx.g_tried (T : Tx K mg) : mg "_law_tried" = some (.ref (He.ga K "_law_tried")) := by
  obtain ⟨h, X, G⟩ := T.ns
  exact He.glo_ok X G (T.c.fact 18 (f := .glo "_law_tried") rfl)
theorem Tx.g_law (T : Tx K mg) : mg "law" = some (.ref (He.ga K "law")) := by
  obtain ⟨h, X, G⟩ := T.ns
  exact He.glo_ok X G (T.c.fact 19 (f := .glo "law") rfl)
theorem Tx.g_AnswerError (T : Tx K mg) : mg "AnswerError" = some (.ref (He.ga K "AnswerError")) := by
  obtain ⟨h, X, G⟩ := T.ns
  exact He.glo_ok X G (T.c.fact 20 (f := .glo "AnswerError") rfl)
theorem Tx.g_DamagedData (T : Tx K mg) : mg "DamagedData" = some (.ref (He.ga K "DamagedData")) := by
  obtain ⟨h, X, G⟩ := T.ns
  exact He.glo_ok X G (T.c.fact 21 (f := .glo "DamagedData") rfl)
theorem Tx.g_PageReader (T : Tx K mg) : mg "PageReader" = some (.ref (He.ga K "PageReader")) := by
  obtain ⟨h, X, G⟩ := T.ns
  exact He.glo_ok X G (T.c.fact 22 (f := .glo "PageReader") rfl)
theorem Tx.i_INTEGER (T : Tx K mg) : ∃ t, mg "INTEGER" = some (.int 1 t) := by
  obtain ⟨h, X, G⟩ := T.ns
  exact He.int_ok X G (T.c.fact 23 (f := .int "INTEGER" 1) rfl)
theorem Tx.i_TEXT (T : Tx K mg) : ∃ t, mg "TEXT" = some (.int 2 t) := by
  obtain ⟨h, X, G⟩ := T.ns
  exact He.int_ok X G (T.c.fact 24 (f := .int "TEXT" 2) rfl)
theorem Tx.i_NUMBER_BYTES (T : Tx K mg) : ∃ t, mg "NUMBER_BYTES" = some (.int 5 t) := by
  obtain ⟨h, X, G⟩ := T.ns
  exact He.int_ok X G (T.c.fact 25 (f := .int "NUMBER_BYTES" 5) rfl)
theorem Tx.i_SHIFT (T : Tx K mg) : ∃ t, mg "SHIFT" = some (.int 549755813888 t) := by
  obtain ⟨h, X, G⟩ := T.ns
  exact He.int_ok X G (T.c.fact 26 (f := .int "SHIFT" 549755813888) rfl)
theorem Tx.i_BOUND (T : Tx K mg) : ∃ t, mg "BOUND" = some (.int 1000000000 t) := by
  obtain ⟨h, X, G⟩ := T.ns
  exact He.int_ok X G (T.c.fact 27 (f := .int "BOUND" 1000000000) rfl)
theorem Tx.i_MOST_CHARACTERS (T : Tx K mg) : ∃ t, mg "MOST_CHARACTERS" = some (.int 6 t) := by
  obtain ⟨h, X, G⟩ := T.ns
  exact He.int_ok X G (T.c.fact 28 (f := .int "MOST_CHARACTERS" 6) rfl)
theorem Tx.i_BEFORE_PERCENT (T : Tx K mg) : ∃ t, mg "BEFORE_PERCENT" = some (.str (" !\"#$" : Str) t) := by
  obtain ⟨h, X, G⟩ := T.ns
  exact He.str_ok X G (T.c.fact 29 (f := .str "BEFORE_PERCENT" " !\"#$") rfl)
theorem Tx.i_AFTER_PERCENT (T : Tx K mg) : ∃ t, mg "AFTER_PERCENT" = some (.str ("&'()*+,-./0123456789:;<=>?@ABCDEFGHIJKLMNOPQRSTUVWXYZ[\\]^_`abcdefghijklmnopqrstuvwxyz{|}~" : Str) t) := by
  obtain ⟨h, X, G⟩ := T.ns
  exact He.str_ok X G (T.c.fact 30 (f := .str "AFTER_PERCENT" "&'()*+,-./0123456789:;<=>?@ABCDEFGHIJKLMNOPQRSTUVWXYZ[\\]^_`abcdefghijklmnopqrstuvwxyz{|}~") rfl)
theorem Tx.i_PAGE (T : Tx K mg) : ∃ t, mg "PAGE" = some (.int 256 t) := by
  obtain ⟨h, X, G⟩ := T.ns
  exact He.int_ok X G (T.c.fact 31 (f := .int "PAGE" 256) rfl)
theorem Tx.i_LEAF (T : Tx K mg) : ∃ t, mg "LEAF" = some (.int 0 t) := by
  obtain ⟨h, X, G⟩ := T.ns
  exact He.int_ok X G (T.c.fact 32 (f := .int "LEAF" 0) rfl)
theorem Tx.i_INNER (T : Tx K mg) : ∃ t, mg "INNER" = some (.int 1 t) := by
  obtain ⟨h, X, G⟩ := T.ns
  exact He.int_ok X G (T.c.fact 33 (f := .int "INNER" 1) rfl)
theorem Tx.f_ValueError (T : Tx K mg) : mg "ValueError" = none := by
  obtain ⟨h, X, G⟩ := T.ns
  exact He.free_ok X G (T.c.fact 34 (f := .free "ValueError") rfl)
theorem Tx.f_bool (T : Tx K mg) : mg "bool" = none := by
  obtain ⟨h, X, G⟩ := T.ns
  exact He.free_ok X G (T.c.fact 35 (f := .free "bool") rfl)
theorem Tx.f_int (T : Tx K mg) : mg "int" = none := by
  obtain ⟨h, X, G⟩ := T.ns
  exact He.free_ok X G (T.c.fact 36 (f := .free "int") rfl)
theorem Tx.f_isinstance (T : Tx K mg) : mg "isinstance" = none := by
  obtain ⟨h, X, G⟩ := T.ns
  exact He.free_ok X G (T.c.fact 37 (f := .free "isinstance") rfl)
theorem Tx.f_len (T : Tx K mg) : mg "len" = none := by
  obtain ⟨h, X, G⟩ := T.ns
  exact He.free_ok X G (T.c.fact 38 (f := .free "len") rfl)
theorem Tx.f_list (T : Tx K mg) : mg "list" = none := by
  obtain ⟨h, X, G⟩ := T.ns
  exact He.free_ok X G (T.c.fact 39 (f := .free "list") rfl)
theorem Tx.f_ord (T : Tx K mg) : mg "ord" = none := by
  obtain ⟨h, X, G⟩ := T.ns
  exact He.free_ok X G (T.c.fact 40 (f := .free "ord") rfl)
theorem Tx.f_range (T : Tx K mg) : mg "range" = none := by
  obtain ⟨h, X, G⟩ := T.ns
  exact He.free_ok X G (T.c.fact 41 (f := .free "range") rfl)
theorem Tx.f_str (T : Tx K mg) : mg "str" = none := by
  obtain ⟨h, X, G⟩ := T.ns
  exact He.free_ok X G (T.c.fact 42 (f := .free "str") rfl)
theorem Tx.f_tuple (T : Tx K mg) : mg "tuple" = none := by
  obtain ⟨h, X, G⟩ := T.ns
  exact He.free_ok X G (T.c.fact 43 (f := .free "tuple") rfl)
theorem Tx.x_AnswerError (T : Tx K mg) : PySem.W.excIn K (He.ga K "AnswerError") He.veBase "ValueError.__new__" = true ∧ PySem.W.keepIn K (.ref (He.ga K "AnswerError")) = true ∧ PySem.W.subIn K (.ref (He.ga K "AnswerError")) (.type "BaseException") = some true ∧ PySem.W.typeIn K (.ref (He.ga K "AnswerError")) = some (.type "type") := He.exc_ok (T.c.fact 44 (f := .exc "AnswerError") rfl)
theorem Tx.x_DamagedData (T : Tx K mg) : PySem.W.excIn K (He.ga K "DamagedData") He.veBase "ValueError.__new__" = true ∧ PySem.W.keepIn K (.ref (He.ga K "DamagedData")) = true ∧ PySem.W.subIn K (.ref (He.ga K "DamagedData")) (.type "BaseException") = some true ∧ PySem.W.typeIn K (.ref (He.ga K "DamagedData")) = some (.type "type") := He.exc_ok (T.c.fact 45 (f := .exc "DamagedData") rfl)
theorem Tx.c_PageReader (T : Tx K mg) : Cls K (He.ga K "PageReader") := He.cls_ok (T.c.fact 46 (f := .cls "PageReader") rfl)
theorem Tx.k_PageReader (T : Tx K mg) : Mk K (He.ga K "PageReader") (He.ma K (He.ga K "PageReader") "__init__") := He.mkr_ok (T.c.fact 47 (f := .mkr "PageReader") rfl)
theorem Tx.n_PageReader_data (T : Tx K mg) : NoAttr K (He.ga K "PageReader") "data" := He.noat_ok (T.c.fact 48 (f := .noat "PageReader" "data") rfl)
theorem Tx.n_PageReader_at (T : Tx K mg) : NoAttr K (He.ga K "PageReader") "at" := He.noat_ok (T.c.fact 49 (f := .noat "PageReader" "at") rfl)
theorem Tx.m_PageReader_need (T : Tx K mg) : Meth K (He.ga K "PageReader") "need" (He.ma K (He.ga K "PageReader") "need") := He.meth_ok (T.c.fact 50 (f := .meth "PageReader" "need") rfl)
theorem Tx.m_PageReader_read_bytes (T : Tx K mg) : Meth K (He.ga K "PageReader") "read_bytes" (He.ma K (He.ga K "PageReader") "read_bytes") := He.meth_ok (T.c.fact 51 (f := .meth "PageReader" "read_bytes") rfl)
theorem Tx.m_PageReader_read_byte (T : Tx K mg) : Meth K (He.ga K "PageReader") "read_byte" (He.ma K (He.ga K "PageReader") "read_byte") := He.meth_ok (T.c.fact 52 (f := .meth "PageReader" "read_byte") rfl)
theorem Tx.m_PageReader_read_key (T : Tx K mg) : Meth K (He.ga K "PageReader") "read_key" (He.ma K (He.ga K "PageReader") "read_key") := He.meth_ok (T.c.fact 53 (f := .meth "PageReader" "read_key") rfl)
theorem Tx.m_PageReader_read_entry (T : Tx K mg) : Meth K (He.ga K "PageReader") "read_entry" (He.ma K (He.ga K "PageReader") "read_entry") := He.meth_ok (T.c.fact 54 (f := .meth "PageReader" "read_entry") rfl)
theorem Tx.m_PageReader_read_child (T : Tx K mg) : Meth K (He.ga K "PageReader") "read_child" (He.ma K (He.ga K "PageReader") "read_child") := He.meth_ok (T.c.fact 55 (f := .meth "PageReader" "read_child") rfl)
theorem Tx.m_PageReader_read_end (T : Tx K mg) : Meth K (He.ga K "PageReader") "read_end" (He.ma K (He.ga K "PageReader") "read_end") := He.meth_ok (T.c.fact 56 (f := .meth "PageReader" "read_end") rfl)
theorem Tx.e_DamagedData_AnswerError (T : Tx K mg) : PySem.W.exmOne K (.ref (He.ga K "DamagedData")) (.ref (He.ga K "AnswerError")) = some true := He.exm_ok (T.c.fact 57 (f := .exm "DamagedData" "AnswerError" true) rfl)
end
theorem sc_bytes_of : FnScope ["value", "number", "data", "_", "character"] ["value"] (defScope s_bytes_of) := ⟨rfl, rfl, rfl, by decide +kernel, rfl, by decide +kernel, by decide +kernel⟩
theorem sc_key_of : FnScope ["values", "key", "value"] ["values"] (defScope s_key_of) := ⟨rfl, rfl, rfl, by decide +kernel, rfl, by decide +kernel, by decide +kernel⟩
theorem sc_character_of : FnScope ["code"] ["code"] (defScope s_character_of) := ⟨rfl, rfl, rfl, by decide +kernel, rfl, by decide +kernel, by decide +kernel⟩
theorem sc_integer_at : FnScope ["key", "at", "data", "number", "byte"] ["key", "at"] (defScope s_integer_at) := ⟨rfl, rfl, rfl, by decide +kernel, rfl, by decide +kernel, by decide +kernel⟩
theorem sc_text_at : FnScope ["key", "at", "text", "code", "character"] ["key", "at"] (defScope s_text_at) := ⟨rfl, rfl, rfl, by decide +kernel, rfl, by decide +kernel, by decide +kernel⟩
theorem sc_values_of : FnScope ["key", "found", "at", "value"] ["key"] (defScope s_values_of) := ⟨rfl, rfl, rfl, by decide +kernel, rfl, by decide +kernel, by decide +kernel⟩
theorem sc_entry_bytes : FnScope ["entry", "key", "value", "written"] ["entry"] (defScope s_entry_bytes) := ⟨rfl, rfl, rfl, by decide +kernel, rfl, by decide +kernel, by decide +kernel⟩
theorem sc_child_bytes : FnScope ["child", "key", "number"] ["child"] (defScope s_child_bytes) := ⟨rfl, rfl, rfl, by decide +kernel, rfl, by decide +kernel, by decide +kernel⟩
theorem sc_write_page : FnScope ["page", "kind", "parts", "data", "part"] ["page"] (defScope s_write_page) := ⟨rfl, rfl, rfl, by decide +kernel, rfl, by decide +kernel, by decide +kernel⟩
theorem sc_PageReader_init : FnScope ["self", "data"] ["self", "data"] (defScope s_PageReader_init) := ⟨rfl, rfl, rfl, by decide +kernel, rfl, by decide +kernel, by decide +kernel⟩
theorem sc_PageReader_need : FnScope ["self", "holds"] ["self", "holds"] (defScope s_PageReader_need) := ⟨rfl, rfl, rfl, by decide +kernel, rfl, by decide +kernel, by decide +kernel⟩
theorem sc_PageReader_read_bytes : FnScope ["self", "count"] ["self", "count"] (defScope s_PageReader_read_bytes) := ⟨rfl, rfl, rfl, by decide +kernel, rfl, by decide +kernel, by decide +kernel⟩
theorem sc_PageReader_read_byte : FnScope ["self"] ["self"] (defScope s_PageReader_read_byte) := ⟨rfl, rfl, rfl, by decide +kernel, rfl, by decide +kernel, by decide +kernel⟩
theorem sc_PageReader_read_key : FnScope ["self"] ["self"] (defScope s_PageReader_read_key) := ⟨rfl, rfl, rfl, by decide +kernel, rfl, by decide +kernel, by decide +kernel⟩
theorem sc_PageReader_read_entry : FnScope ["self", "key", "value"] ["self"] (defScope s_PageReader_read_entry) := ⟨rfl, rfl, rfl, by decide +kernel, rfl, by decide +kernel, by decide +kernel⟩
theorem sc_PageReader_read_child : FnScope ["self", "is_first", "number", "key"] ["self", "is_first"] (defScope s_PageReader_read_child) := ⟨rfl, rfl, rfl, by decide +kernel, rfl, by decide +kernel, by decide +kernel⟩
theorem sc_PageReader_read_end : FnScope ["self"] ["self"] (defScope s_PageReader_read_end) := ⟨rfl, rfl, rfl, by decide +kernel, rfl, by decide +kernel, by decide +kernel⟩
theorem sc_read_page : FnScope ["data", "reader", "kind", "count", "page", "_", "index"] ["data"] (defScope s_read_page) := ⟨rfl, rfl, rfl, by decide +kernel, rfl, by decide +kernel, by decide +kernel⟩
theorem sc_next : FnScope ["_law_state", "_law_limit", "_law_cell", "_law_value_here"] ["_law_state", "_law_limit"] (defScope s_next) := ⟨rfl, rfl, rfl, by decide +kernel, rfl, by decide +kernel, by decide +kernel⟩
theorem sc_same : FnScope ["_law_actual", "_law_expected", "_law_k"] ["_law_actual", "_law_expected"] (defScope s_same) := ⟨rfl, rfl, rfl, by decide +kernel, rfl, by decide +kernel, by decide +kernel⟩
theorem sc_value : FnScope ["_law_state", "_law_pick", "_law_start", "_law_step", "_law_j"] ["_law_state"] (defScope s_value) := ⟨rfl, rfl, rfl, by decide +kernel, rfl, by decide +kernel, by decide +kernel⟩
theorem sc_characters : FnScope [] [] (defScope s_characters) := ⟨rfl, rfl, rfl, by decide +kernel, rfl, by decide +kernel, by decide +kernel⟩
theorem sc_bytes : FnScope ["_law_values", "_law_data", "_law_value_here", "_law_chars", "_law_number", "_law_five", "_law_k", "_law_each"] ["_law_values"] (defScope s_bytes) := ⟨rfl, rfl, rfl, by decide +kernel, rfl, by decide +kernel, by decide +kernel⟩
theorem sc_page_bytes : FnScope ["_law_page_here", "_law_data", "_law_key_here", "_law_what", "_law_value_here"] ["_law_page_here"] (defScope s_page_bytes) := ⟨rfl, rfl, rfl, by decide +kernel, rfl, by decide +kernel, by decide +kernel⟩
theorem sc_key : FnScope ["_law_state", "_law_start", "_law_j"] ["_law_state"] (defScope s_key) := ⟨rfl, rfl, rfl, by decide +kernel, rfl, by decide +kernel, by decide +kernel⟩
theorem sc_page : FnScope ["_law_state", "_law_entries", "_law_k", "_law_children", "_law_key_here", "_law_j"] ["_law_state"] (defScope s_page) := ⟨rfl, rfl, rfl, by decide +kernel, rfl, by decide +kernel, by decide +kernel⟩
theorem sc_tried : FnScope ["_law_data", "_law_passed", "_law_page_here", "e"] ["_law_data"] (defScope s_tried) := ⟨rfl, rfl, rfl, by decide +kernel, rfl, by decide +kernel, by decide +kernel⟩
theorem sc_law : FnScope ["_law_script", "_law_state", "_law_k", "_law_page_here", "_law_due", "_law_at", "_law_byte", "_law_changed", "_law_data", "_law_drawn", "_law_j"] ["_law_script"] (defScope s_law) := ⟨rfl, rfl, rfl, by decide +kernel, rfl, by decide +kernel, by decide +kernel⟩
end
/-! Fn -/
section
open PySem PySem.Spec PyProof.Rows
def ct_AnswerError (c : Str) : Option Bool := if c = "DamagedData" then some true else  none
def is_DamagedData (c : Str) : Option Bool := if c = "DamagedData" then some true else  none
def is_ValueError (c : Str) : Option Bool := if c = "DamagedData" then some true else  none
theorem sn_init_at : (("__init__" : Str) = ("at" : Str)) = False := eq_false (by decide +kernel)
theorem sn_init_data : (("__init__" : Str) = ("data" : Str)) = False := eq_false (by decide +kernel)
theorem sn_init_need : (("__init__" : Str) = ("need" : Str)) = False := eq_false (by decide +kernel)
theorem sn_init_read_byte : (("__init__" : Str) = ("read_byte" : Str)) = False := eq_false (by decide +kernel)
theorem sn_init_read_bytes : (("__init__" : Str) = ("read_bytes" : Str)) = False := eq_false (by decide +kernel)
theorem sn_init_read_child : (("__init__" : Str) = ("read_child" : Str)) = False := eq_false (by decide +kernel)
theorem sn_init_read_end : (("__init__" : Str) = ("read_end" : Str)) = False := eq_false (by decide +kernel)
theorem sn_init_read_entry : (("__init__" : Str) = ("read_entry" : Str)) = False := eq_false (by decide +kernel)
theorem sn_init_read_key : (("__init__" : Str) = ("read_key" : Str)) = False := eq_false (by decide +kernel)
theorem sn_at_init : (("at" : Str) = ("__init__" : Str)) = False := eq_false (by decide +kernel)
theorem sn_at_data : (("at" : Str) = ("data" : Str)) = False := eq_false (by decide +kernel)
theorem sn_at_need : (("at" : Str) = ("need" : Str)) = False := eq_false (by decide +kernel)
theorem sn_at_read_byte : (("at" : Str) = ("read_byte" : Str)) = False := eq_false (by decide +kernel)
theorem sn_at_read_bytes : (("at" : Str) = ("read_bytes" : Str)) = False := eq_false (by decide +kernel)
theorem sn_at_read_child : (("at" : Str) = ("read_child" : Str)) = False := eq_false (by decide +kernel)
theorem sn_at_read_end : (("at" : Str) = ("read_end" : Str)) = False := eq_false (by decide +kernel)
theorem sn_at_read_entry : (("at" : Str) = ("read_entry" : Str)) = False := eq_false (by decide +kernel)
theorem sn_at_read_key : (("at" : Str) = ("read_key" : Str)) = False := eq_false (by decide +kernel)
theorem sn_data_init : (("data" : Str) = ("__init__" : Str)) = False := eq_false (by decide +kernel)
theorem sn_data_at : (("data" : Str) = ("at" : Str)) = False := eq_false (by decide +kernel)
theorem sn_data_need : (("data" : Str) = ("need" : Str)) = False := eq_false (by decide +kernel)
theorem sn_data_read_byte : (("data" : Str) = ("read_byte" : Str)) = False := eq_false (by decide +kernel)
theorem sn_data_read_bytes : (("data" : Str) = ("read_bytes" : Str)) = False := eq_false (by decide +kernel)
theorem sn_data_read_child : (("data" : Str) = ("read_child" : Str)) = False := eq_false (by decide +kernel)
theorem sn_data_read_end : (("data" : Str) = ("read_end" : Str)) = False := eq_false (by decide +kernel)
theorem sn_data_read_entry : (("data" : Str) = ("read_entry" : Str)) = False := eq_false (by decide +kernel)
theorem sn_data_read_key : (("data" : Str) = ("read_key" : Str)) = False := eq_false (by decide +kernel)
theorem sn_need_init : (("need" : Str) = ("__init__" : Str)) = False := eq_false (by decide +kernel)
theorem sn_need_at : (("need" : Str) = ("at" : Str)) = False := eq_false (by decide +kernel)
theorem sn_need_data : (("need" : Str) = ("data" : Str)) = False := eq_false (by decide +kernel)
theorem sn_need_read_byte : (("need" : Str) = ("read_byte" : Str)) = False := eq_false (by decide +kernel)
theorem sn_need_read_bytes : (("need" : Str) = ("read_bytes" : Str)) = False := eq_false (by decide +kernel)
theorem sn_need_read_child : (("need" : Str) = ("read_child" : Str)) = False := eq_false (by decide +kernel)
theorem sn_need_read_end : (("need" : Str) = ("read_end" : Str)) = False := eq_false (by decide +kernel)
theorem sn_need_read_entry : (("need" : Str) = ("read_entry" : Str)) = False := eq_false (by decide +kernel)
theorem sn_need_read_key : (("need" : Str) = ("read_key" : Str)) = False := eq_false (by decide +kernel)
theorem sn_read_byte_init : (("read_byte" : Str) = ("__init__" : Str)) = False := eq_false (by decide +kernel)
theorem sn_read_byte_at : (("read_byte" : Str) = ("at" : Str)) = False := eq_false (by decide +kernel)
theorem sn_read_byte_data : (("read_byte" : Str) = ("data" : Str)) = False := eq_false (by decide +kernel)
theorem sn_read_byte_need : (("read_byte" : Str) = ("need" : Str)) = False := eq_false (by decide +kernel)
theorem sn_read_byte_read_bytes : (("read_byte" : Str) = ("read_bytes" : Str)) = False := eq_false (by decide +kernel)
theorem sn_read_byte_read_child : (("read_byte" : Str) = ("read_child" : Str)) = False := eq_false (by decide +kernel)
theorem sn_read_byte_read_end : (("read_byte" : Str) = ("read_end" : Str)) = False := eq_false (by decide +kernel)
theorem sn_read_byte_read_entry : (("read_byte" : Str) = ("read_entry" : Str)) = False := eq_false (by decide +kernel)
theorem sn_read_byte_read_key : (("read_byte" : Str) = ("read_key" : Str)) = False := eq_false (by decide +kernel)
theorem sn_read_bytes_init : (("read_bytes" : Str) = ("__init__" : Str)) = False := eq_false (by decide +kernel)
theorem sn_read_bytes_at : (("read_bytes" : Str) = ("at" : Str)) = False := eq_false (by decide +kernel)
theorem sn_read_bytes_data : (("read_bytes" : Str) = ("data" : Str)) = False := eq_false (by decide +kernel)
theorem sn_read_bytes_need : (("read_bytes" : Str) = ("need" : Str)) = False := eq_false (by decide +kernel)
theorem sn_read_bytes_read_byte : (("read_bytes" : Str) = ("read_byte" : Str)) = False := eq_false (by decide +kernel)
theorem sn_read_bytes_read_child : (("read_bytes" : Str) = ("read_child" : Str)) = False := eq_false (by decide +kernel)
theorem sn_read_bytes_read_end : (("read_bytes" : Str) = ("read_end" : Str)) = False := eq_false (by decide +kernel)
theorem sn_read_bytes_read_entry : (("read_bytes" : Str) = ("read_entry" : Str)) = False := eq_false (by decide +kernel)
theorem sn_read_bytes_read_key : (("read_bytes" : Str) = ("read_key" : Str)) = False := eq_false (by decide +kernel)
theorem sn_read_child_init : (("read_child" : Str) = ("__init__" : Str)) = False := eq_false (by decide +kernel)
theorem sn_read_child_at : (("read_child" : Str) = ("at" : Str)) = False := eq_false (by decide +kernel)
theorem sn_read_child_data : (("read_child" : Str) = ("data" : Str)) = False := eq_false (by decide +kernel)
theorem sn_read_child_need : (("read_child" : Str) = ("need" : Str)) = False := eq_false (by decide +kernel)
theorem sn_read_child_read_byte : (("read_child" : Str) = ("read_byte" : Str)) = False := eq_false (by decide +kernel)
theorem sn_read_child_read_bytes : (("read_child" : Str) = ("read_bytes" : Str)) = False := eq_false (by decide +kernel)
theorem sn_read_child_read_end : (("read_child" : Str) = ("read_end" : Str)) = False := eq_false (by decide +kernel)
theorem sn_read_child_read_entry : (("read_child" : Str) = ("read_entry" : Str)) = False := eq_false (by decide +kernel)
theorem sn_read_child_read_key : (("read_child" : Str) = ("read_key" : Str)) = False := eq_false (by decide +kernel)
theorem sn_read_end_init : (("read_end" : Str) = ("__init__" : Str)) = False := eq_false (by decide +kernel)
theorem sn_read_end_at : (("read_end" : Str) = ("at" : Str)) = False := eq_false (by decide +kernel)
theorem sn_read_end_data : (("read_end" : Str) = ("data" : Str)) = False := eq_false (by decide +kernel)
theorem sn_read_end_need : (("read_end" : Str) = ("need" : Str)) = False := eq_false (by decide +kernel)
theorem sn_read_end_read_byte : (("read_end" : Str) = ("read_byte" : Str)) = False := eq_false (by decide +kernel)
theorem sn_read_end_read_bytes : (("read_end" : Str) = ("read_bytes" : Str)) = False := eq_false (by decide +kernel)
theorem sn_read_end_read_child : (("read_end" : Str) = ("read_child" : Str)) = False := eq_false (by decide +kernel)
theorem sn_read_end_read_entry : (("read_end" : Str) = ("read_entry" : Str)) = False := eq_false (by decide +kernel)
theorem sn_read_end_read_key : (("read_end" : Str) = ("read_key" : Str)) = False := eq_false (by decide +kernel)
theorem sn_read_entry_init : (("read_entry" : Str) = ("__init__" : Str)) = False := eq_false (by decide +kernel)
theorem sn_read_entry_at : (("read_entry" : Str) = ("at" : Str)) = False := eq_false (by decide +kernel)
theorem sn_read_entry_data : (("read_entry" : Str) = ("data" : Str)) = False := eq_false (by decide +kernel)
theorem sn_read_entry_need : (("read_entry" : Str) = ("need" : Str)) = False := eq_false (by decide +kernel)
theorem sn_read_entry_read_byte : (("read_entry" : Str) = ("read_byte" : Str)) = False := eq_false (by decide +kernel)
theorem sn_read_entry_read_bytes : (("read_entry" : Str) = ("read_bytes" : Str)) = False := eq_false (by decide +kernel)
theorem sn_read_entry_read_child : (("read_entry" : Str) = ("read_child" : Str)) = False := eq_false (by decide +kernel)
theorem sn_read_entry_read_end : (("read_entry" : Str) = ("read_end" : Str)) = False := eq_false (by decide +kernel)
theorem sn_read_entry_read_key : (("read_entry" : Str) = ("read_key" : Str)) = False := eq_false (by decide +kernel)
theorem sn_read_key_init : (("read_key" : Str) = ("__init__" : Str)) = False := eq_false (by decide +kernel)
theorem sn_read_key_at : (("read_key" : Str) = ("at" : Str)) = False := eq_false (by decide +kernel)
theorem sn_read_key_data : (("read_key" : Str) = ("data" : Str)) = False := eq_false (by decide +kernel)
theorem sn_read_key_need : (("read_key" : Str) = ("need" : Str)) = False := eq_false (by decide +kernel)
theorem sn_read_key_read_byte : (("read_key" : Str) = ("read_byte" : Str)) = False := eq_false (by decide +kernel)
theorem sn_read_key_read_bytes : (("read_key" : Str) = ("read_bytes" : Str)) = False := eq_false (by decide +kernel)
theorem sn_read_key_read_child : (("read_key" : Str) = ("read_child" : Str)) = False := eq_false (by decide +kernel)
theorem sn_read_key_read_end : (("read_key" : Str) = ("read_end" : Str)) = False := eq_false (by decide +kernel)
theorem sn_read_key_read_entry : (("read_key" : Str) = ("read_entry" : Str)) = False := eq_false (by decide +kernel)
noncomputable def fb_bytes_of : FS :=
  (fSeq (fIfS (fTru (fCall oIsi (fCons (fVar 0) (fCons (fC (.ty "str")) fNil)))) (fRet (fOp (oAdd false) (fOp (oAdd false) (fLst false (fCons (fC (.int 2)) fNil)) (fLc false (iSeq (fVar 0)) (.name 4) fYes (fCall oOrd (fCons (fVar 4) fNil)) [4])) (fLst false (fCons (fC (.int 0)) fNil)))) fNext)
  (fSeq (fAsg (.name 1) (fOp (oAdd false) (fVar 0) (fC (.int 549755813888))))
  (fSeq (fAsg (.name 2) (fLst true fNil))
  (fSeq (fFor (iR1 (fCons (fC (.int 5)) fNil)) (.name 3) (fSeq (fDrop (fMt isL oAppend (fVar 2) (fCons (fOp oMod (fVar 1) (fC (.int 256))) fNil)))
  (fAsg (.name 1) (fOp oFdv (fVar 1) (fC (.int 256))))))
  (fRet (fOp (oAdd false) (fLst false (fCons (fC (.int 1)) fNil)) (fUn (oRev false) (fVar 2))))))))
noncomputable def f_bytes_of : FN := fnC true 5 fb_bytes_of

noncomputable def fb_key_of : FS :=
  (fSeq (fAsg (.name 1) (fLst true fNil))
  (fSeq (fFor (iSeq (fVar 0)) (.name 2) (fDrop (fMt isL oExtend (fVar 1) (fCons (fCall (gd 1 f_bytes_of) (fCons (fVar 2) fNil)) fNil))))
  (fRet (fCall oTuple (fCons (fVar 1) fNil)))))
noncomputable def f_key_of : FN := fnC true 3 fb_key_of

noncomputable def fb_character_of : FS :=
  (fSeq (fIfS (fBl (fChain (oCm .le) (oCm .lt) (fC (.int 32)) (fVar 0) (fC (.int 37)))) (fRet (fOp oIx (fC (.str (" !\"#$" : Str))) (fOp oSub (fVar 0) (fC (.int 32))))) fNext)
  (fSeq (fIfS (fBl (fChain (oCm .lt) (oCm .lt) (fC (.int 37)) (fVar 0) (fC (.int 127)))) (fRet (fOp oIx (fC (.str ("&'()*+,-./0123456789:;<=>?@ABCDEFGHIJKLMNOPQRSTUVWXYZ[\\]^_`abcdefghijklmnopqrstuvwxyz{|}~" : Str))) (fOp oSub (fVar 0) (fC (.int 38))))) fNext)
  (fRet (fC .non))))
noncomputable def f_character_of : FN := fnC true 1 fb_character_of

noncomputable def fb_integer_at : FS :=
  (fSeq (fAsg (.name 2) (fSl false (fVar 0) (fPart (fVar 1)) (fPart (fOp (oAdd false) (fVar 1) (fC (.int 5))))))
  (fSeq (fIfS (fBl (fOp (oCm .lt) (fCall oLen (fCons (fVar 2) fNil)) (fC (.int 5)))) (fRet (fC .non)) fNext)
  (fSeq (fAsg (.name 3) (fC (.int 0)))
  (fSeq (fFor (iSeq (fVar 2)) (.name 4) (fAsg (.name 3) (fOp (oAdd false) (fOp (oMul false) (fC (.int 256)) (fVar 3)) (fVar 4))))
  (fSeq (fIfS (fNot (fBl (fChain (oCm .le) (oCm .le) (fUn oNeg (fC (.int 1000000000))) (fOp oSub (fVar 3) (fC (.int 549755813888))) (fC (.int 1000000000))))) (fRet (fC .non)) fNext)
  (fRet (fOp oSub (fVar 3) (fC (.int 549755813888)))))))))
noncomputable def f_integer_at : FN := fnC true 5 fb_integer_at

noncomputable def fb_text_at : FS :=
  (fSeq (fAsg (.name 2) (fC (.str ("" : Str))))
  (fSeq (fFor (iSeq (fSl false (fVar 0) (fPart (fVar 1)) (fPart (fOp (oAdd false) (fOp (oAdd false) (fVar 1) (fC (.int 6))) (fC (.int 1)))))) (.name 3) (fSeq (fIfS (fBl (fOp oEq (fVar 3) (fC (.int 0)))) (fRet (fVar 2)) fNext)
  (fSeq (fAsg (.name 4) (fCall (gd 1 f_character_of) (fCons (fVar 3) fNil)))
  (fSeq (fIfS (fBl (fOp oIsN (fVar 4) (fC .non))) (fRet (fC .non)) fNext)
  (fAsg (.name 2) (fOp (oAdd false) (fVar 2) (fVar 4)))))))
  (fRet (fC .non))))
noncomputable def f_text_at : FN := fnC true 5 fb_text_at

noncomputable def fb_values_of : FS :=
  (fSeq (fAsg (.name 1) (fLst true fNil))
  (fSeq (fAsg (.name 2) (fC (.int 0)))
  (fSeq (fWhile (fBl (fOp (oCm .lt) (fVar 2) (fCall oLen (fCons (fVar 0) fNil)))) (fSeq (fIfS (fBl (fOp oEq (fOp oIx (fVar 0) (fVar 2)) (fC (.int 1)))) (fAsg (.name 3) (fCall (gd 2 f_integer_at) (fCons (fVar 0) (fCons (fOp (oAdd false) (fVar 2) (fC (.int 1))) fNil)))) (fIfS (fBl (fOp oEq (fOp oIx (fVar 0) (fVar 2)) (fC (.int 2)))) (fAsg (.name 3) (fCall (gd 2 f_text_at) (fCons (fVar 0) (fCons (fOp (oAdd false) (fVar 2) (fC (.int 1))) fNil)))) (fRet (fC .non))))
  (fSeq (fIfS (fBl (fOp oIsN (fVar 3) (fC .non))) (fRet (fC .non)) fNext)
  (fSeq (fDrop (fMt isL oAppend (fVar 1) (fCons (fVar 3) fNil)))
  (fAug 2 oPlus (fCall oLen (fCons (fCall (gd 1 f_bytes_of) (fCons (fVar 3) fNil)) fNil)))))))
  (fRet (fCall oTuple (fCons (fVar 1) fNil))))))
noncomputable def f_values_of : FN := fnC true 4 fb_values_of

noncomputable def fb_entry_bytes : FS :=
  (fSeq (fAsg (.tup (.cons (.name 1) (.cons (.name 2) TgL.nil))) (fVar 0))
  (fSeq (fAsg (.name 3) (fCall (gd 1 f_key_of) (fCons (fVar 2) fNil)))
  (fRet (fOp (oAdd false) (fOp (oAdd false) (fOp (oAdd false) (fLst false (fCons (fCall oLen (fCons (fVar 1) fNil)) fNil)) (fCall (oList false) (fCons (fVar 1) fNil))) (fLst false (fCons (fCall oLen (fCons (fVar 3) fNil)) fNil))) (fCall (oList false) (fCons (fVar 3) fNil))))))
noncomputable def f_entry_bytes : FN := fnC true 4 fb_entry_bytes

noncomputable def fb_child_bytes : FS :=
  (fSeq (fAsg (.tup (.cons (.name 1) (.cons (.name 2) TgL.nil))) (fVar 0))
  (fRet (fOp (oAdd false) (fLst false (fCons (fOp oFdv (fVar 2) (fC (.int 256))) (fCons (fOp oMod (fVar 2) (fC (.int 256))) (fCons (fCall oLen (fCons (fVar 1) fNil)) fNil)))) (fCall (oList false) (fCons (fVar 1) fNil)))))
noncomputable def f_child_bytes : FN := fnC true 3 fb_child_bytes

noncomputable def fb_write_page : FS :=
  (fSeq (fAsg (.tup (.cons (.name 1) (.cons (.name 2) TgL.nil))) (fVar 0))
  (fSeq (fIfS (fBl (fOp oEq (fVar 1) (fC (.str ("leaf" : Str))))) (fSeq (fAsg (.name 3) (fLst true (fCons (fC (.int 0)) (fCons (fCall oLen (fCons (fVar 2) fNil)) fNil))))
  (fFor (iSeq (fVar 2)) (.name 4) (fDrop (fMt isL oExtend (fVar 3) (fCons (fCall (gd 1 f_entry_bytes) (fCons (fVar 4) fNil)) fNil))))) (fSeq (fAsg (.name 3) (fLst true (fCons (fC (.int 1)) (fCons (fCall oLen (fCons (fVar 2) fNil)) fNil))))
  (fFor (iSeq (fVar 2)) (.name 4) (fDrop (fMt isL oExtend (fVar 3) (fCons (fCall (gd 1 f_child_bytes) (fCons (fVar 4) fNil)) fNil))))))
  (fSeq (fIfS (fBl (fOp (oCm .gt) (fCall oLen (fCons (fVar 3) fNil)) (fC (.int 256)))) (fRet (fC .non)) fNext)
  (fRet (fOp (oAdd false) (fVar 3) (fOp (oMul false) (fLst false (fCons (fC (.int 0)) fNil)) (fOp oSub (fC (.int 256)) (fCall oLen (fCons (fVar 3) fNil)))))))))
noncomputable def f_write_page : FN := fnC true 5 fb_write_page

noncomputable def fb_PageReader_init : FS :=
  (fSeq (fSetF "PageReader" "data" (fVar 0) (fCall (oList false) (fCons (fVar 1) fNil)))
  (fSetF "PageReader" "at" (fVar 0) (fC (.int 0))))
noncomputable def f_PageReader_init : FN := fnC true 2 fb_PageReader_init

noncomputable def fb_PageReader_need : FS :=
  (fIfS (fNot (fTru (fVar 1))) (fRaise "DamagedData") fNext)
noncomputable def f_PageReader_need : FN := fnF true 2 fb_PageReader_need

noncomputable def fb_PageReader_read_bytes : FS :=
  (fSeq (fDrop (fMeth "PageReader" "need" 2 f_PageReader_need (fVar 0) (fCons (fOp (oCm .le) (fOp (oAdd false) (fFld "PageReader" "at" (fVar 0)) (fVar 1)) (fCall oLen (fCons (fFld "PageReader" "data" (fVar 0)) fNil))) fNil)))
  (fSeq (fAugF "PageReader" "at" (fVar 0) oPlus (fVar 1))
  (fRet (fCall oTuple (fCons (fSl false (fFld "PageReader" "data" (fVar 0)) (fPart (fOp oSub (fFld "PageReader" "at" (fVar 0)) (fVar 1))) (fPart (fFld "PageReader" "at" (fVar 0)))) fNil)))))
noncomputable def f_PageReader_read_bytes : FN := fnF true 2 fb_PageReader_read_bytes

noncomputable def fb_PageReader_read_byte : FS :=
  (fRet (fOp oIx (fMeth "PageReader" "read_bytes" 2 f_PageReader_read_bytes (fVar 0) (fCons (fC (.int 1)) fNil)) (fC (.int 0))))
noncomputable def f_PageReader_read_byte : FN := fnF true 1 fb_PageReader_read_byte

noncomputable def fb_PageReader_read_key : FS :=
  (fRet (fMeth "PageReader" "read_bytes" 2 f_PageReader_read_bytes (fVar 0) (fCons (fMeth "PageReader" "read_byte" 1 f_PageReader_read_byte (fVar 0) fNil) fNil)))
noncomputable def f_PageReader_read_key : FN := fnF true 1 fb_PageReader_read_key

noncomputable def fb_PageReader_read_entry : FS :=
  (fSeq (fAsg (.name 1) (fMeth "PageReader" "read_key" 1 f_PageReader_read_key (fVar 0) fNil))
  (fSeq (fAsg (.name 2) (fCall (gd 1 f_values_of) (fCons (fMeth "PageReader" "read_key" 1 f_PageReader_read_key (fVar 0) fNil) fNil)))
  (fSeq (fDrop (fMeth "PageReader" "need" 2 f_PageReader_need (fVar 0) (fCons (fOp oNotN (fVar 2) (fC .non)) fNil)))
  (fRet (fTup (fCons (fVar 1) (fCons (fVar 2) fNil)))))))
noncomputable def f_PageReader_read_entry : FN := fnF true 3 fb_PageReader_read_entry

noncomputable def fb_PageReader_read_child : FS :=
  (fSeq (fAsg (.name 2) (fOp (oMul false) (fC (.int 256)) (fMeth "PageReader" "read_byte" 1 f_PageReader_read_byte (fVar 0) fNil)))
  (fSeq (fAug 2 oPlus (fMeth "PageReader" "read_byte" 1 f_PageReader_read_byte (fVar 0) fNil))
  (fSeq (fAsg (.name 3) (fMeth "PageReader" "read_key" 1 f_PageReader_read_key (fVar 0) fNil))
  (fSeq (fDrop (fMeth "PageReader" "need" 2 f_PageReader_need (fVar 0) (fCons (fOrV (fOp oEq (fVar 3) (fTup fNil)) (fNotV (fVar 1))) fNil)))
  (fRet (fTup (fCons (fVar 3) (fCons (fVar 2) fNil))))))))
noncomputable def f_PageReader_read_child : FN := fnF true 4 fb_PageReader_read_child

noncomputable def fb_PageReader_read_end : FS :=
  (fDrop (fMeth "PageReader" "need" 2 f_PageReader_need (fVar 0) (fCons (fOp oEq (fSl false (fFld "PageReader" "data" (fVar 0)) (fPart (fFld "PageReader" "at" (fVar 0))) fNoPart) (fOp (oMul false) (fLst false (fCons (fC (.int 0)) fNil)) (fOp oSub (fCall oLen (fCons (fFld "PageReader" "data" (fVar 0)) fNil)) (fFld "PageReader" "at" (fVar 0))))) fNil)))
noncomputable def f_PageReader_read_end : FN := fnF true 1 fb_PageReader_read_end

noncomputable def fb_read_page : FS :=
  (fSeq (fAsg (.name 1) (fMake "PageReader" 2 f_PageReader_init (fCons (fVar 0) fNil)))
  (fSeq (fDrop (fMeth "PageReader" "need" 2 f_PageReader_need (fVar 1) (fCons (fOp oEq (fCall oLen (fCons (fFld "PageReader" "data" (fVar 1)) fNil)) (fC (.int 256))) fNil)))
  (fSeq (fAsg (.name 2) (fMeth "PageReader" "read_byte" 1 f_PageReader_read_byte (fVar 1) fNil))
  (fSeq (fDrop (fMeth "PageReader" "need" 2 f_PageReader_need (fVar 1) (fCons (fOp (oCm .le) (fVar 2) (fC (.int 1))) fNil)))
  (fSeq (fAsg (.name 3) (fMeth "PageReader" "read_byte" 1 f_PageReader_read_byte (fVar 1) fNil))
  (fSeq (fIfS (fBl (fOp oEq (fVar 2) (fC (.int 0)))) (fAsg (.name 4) (fTup (fCons (fC (.str ("leaf" : Str))) (fCons (fCall oTuple (fCons (fLcX false (iR1 (fCons (fVar 3) fNil)) (.name 5) fYes (fMeth "PageReader" "read_entry" 1 f_PageReader_read_entry (fVar 1) fNil) [5]) fNil)) fNil)))) (fAsg (.name 4) (fTup (fCons (fC (.str ("inner" : Str))) (fCons (fCall oTuple (fCons (fLcX false (iR1 (fCons (fVar 3) fNil)) (.name 6) fYes (fMeth "PageReader" "read_child" 2 f_PageReader_read_child (fVar 1) (fCons (fOp oEq (fVar 6) (fC (.int 0))) fNil)) [6]) fNil)) fNil)))))
  (fSeq (fDrop (fMeth "PageReader" "read_end" 1 f_PageReader_read_end (fVar 1) fNil))
  (fRet (fVar 4)))))))))
noncomputable def f_read_page : FN := fnF true 7 fb_read_page

noncomputable def fb_next : FS :=
  (fSeq (fIfS (fAnd (fBl (fOp oEq (fOp oIx (fVar 0) (fC (.int 2))) (fC (.int 0)))) (fBl (fOp (oCm .lt) (fOp oIx (fVar 0) (fC (.int 1))) (fCall oLen (fCons (fOp oIx (fVar 0) (fC (.int 0))) fNil))))) (fSeq (fAsg (.name 2) (fOp oIx (fOp oIx (fVar 0) (fC (.int 0))) (fOp oIx (fVar 0) (fC (.int 1)))))
  (fSeq (fAugS (fVar 0) (fC (.int 1)) oPlus (fC (.int 1)))
  (fIfS (fBl (fOp (oCm .ge) (fVar 2) (fOp oPow (fC (.int 10)) (fC (.int 18))))) (fSetS (fVar 0) (fC (.int 2)) (fVar 2)) (fSetS (fVar 0) (fC (.int 3)) (fOp oMod (fCall oInt (fCons (fOp (oAdd false) (fOp (oAdd false) (fOp (oMul false) (fOp oIx (fVar 0) (fC (.int 3))) (fC (.int 48271))) (fOp oMod (fCall oInt (fCons (fVar 2) fNil)) (fC (.int 2147483647)))) (fC (.int 7))) fNil)) (fC (.int 2147483647))))))) fNext)
  (fSeq (fIfS (fBl (fOp (oCm .gt) (fOp oIx (fVar 0) (fC (.int 2))) (fC (.int 0)))) (fSeq (fAsg (.name 3) (fOp oMod (fCall oInt (fCons (fOp oIx (fVar 0) (fC (.int 2))) fNil)) (fVar 1)))
  (fSeq (fSetS (fVar 0) (fC (.int 2)) (fOp oFdv (fOp oIx (fVar 0) (fC (.int 2))) (fVar 1)))
  (fRet (fVar 3)))) fNext)
  (fSeq (fSetS (fVar 0) (fC (.int 3)) (fOp oMod (fCall oInt (fCons (fOp (oAdd false) (fOp (oMul false) (fOp oIx (fVar 0) (fC (.int 3))) (fC (.int 69621))) (fC (.int 12345))) fNil)) (fC (.int 2147483647))))
  (fRet (fOp oMod (fCall oInt (fCons (fOp oFdv (fOp oIx (fVar 0) (fC (.int 3))) (fC (.int 7))) fNil)) (fVar 1))))))
noncomputable def f_next : FN := fnC true 4 fb_next

noncomputable def fb_same (f_same : Nat → FN) (n : Nat) : FS :=
  (fSeq (fIfS (fBl (fOp oIsN (fVar 1) (fC .non))) (fRet (fOp oIsN (fVar 0) (fC .non))) fNext)
  (fSeq (fIfS (fTru (fCall oIsi (fCons (fVar 1) (fCons (fC (.ty "bool")) fNil)))) (fRet (fAndV (fCall oIsi (fCons (fVar 0) (fCons (fC (.ty "bool")) fNil))) (fOp oEq (fVar 0) (fVar 1)))) fNext)
  (fSeq (fIfS (fTru (fCall oIsi (fCons (fVar 1) (fCons (fC (.ty "int")) fNil)))) (fRet (fAndV (fCall oIsi (fCons (fVar 0) (fCons (fC (.ty "int")) fNil))) (fAndV (fNotV (fCall oIsi (fCons (fVar 0) (fCons (fC (.ty "bool")) fNil)))) (fOp oEq (fVar 0) (fVar 1))))) fNext)
  (fSeq (fIfS (fTru (fCall oIsi (fCons (fVar 1) (fCons (fC (.ty "str")) fNil)))) (fRet (fAndV (fCall oIsi (fCons (fVar 0) (fCons (fC (.ty "str")) fNil))) (fOp oEq (fVar 0) (fVar 1)))) fNext)
  (fSeq (fIfS (fAnd (fTru (fCall oIsi (fCons (fVar 1) (fCons (fC (.ty "tuple")) fNil)))) (fNot (fTru (fCall oIsi (fCons (fVar 0) (fCons (fC (.ty "tuple")) fNil)))))) (fRet (fC (.bl false))) fNext)
  (fSeq (fIfS (fAnd (fTru (fCall oIsi (fCons (fVar 1) (fCons (fC (.ty "list")) fNil)))) (fNot (fTru (fCall oIsi (fCons (fVar 0) (fCons (fC (.ty "list")) fNil)))))) (fRet (fC (.bl false))) fNext)
  (fSeq (fIfS (fBl (fOp oNe (fCall oLen (fCons (fVar 0) fNil)) (fCall oLen (fCons (fVar 1) fNil)))) (fRet (fC (.bl false))) fNext)
  (fSeq (fFor (iR1 (fCons (fCall oLen (fCons (fVar 1) fNil)) fNil)) (.name 2) (fIfS (fNot (fTru (fCall (gd 2 (f_same n)) (fCons (fOp oIx (fVar 0) (fVar 2)) (fCons (fOp oIx (fVar 1) (fVar 2)) fNil))))) (fRet (fC (.bl false))) fNext))
  (fRet (fC (.bl true)))))))))))
noncomputable def f_same : Nat → FN
  | 0 => fun _ _ => .stuck
  | n + 1 => fnC true 3 (fb_same (fun _ => f_same n) n)

noncomputable def fb_characters : FS :=
  (fRet (fC (.str (" !\"#$&'()*+,-./0123456789:;<=>?@ABCDEFGHIJKLMNOPQRSTUVWXYZ[\\]^_`abcdefghijklmnopqrstuvwxyz{|}~" : Str))))
noncomputable def f_characters : FN := fnC true 0 fb_characters

noncomputable def fb_value : FS :=
  (fSeq (fAsg (.name 1) (fCall (gd 2 f_next) (fCons (fVar 0) (fCons (fC (.int 12)) fNil))))
  (fSeq (fIfS (fBl (fOp (oCm .lt) (fVar 1) (fC (.int 5)))) (fRet (fOp oIx (fLst false (fCons (fC (.int 0)) (fCons (fC (.int 1)) (fCons (fC (.int 2)) (fCons (fUn oNeg (fC (.int 1))) (fCons (fC (.int 7)) fNil)))))) (fVar 1))) fNext)
  (fSeq (fIfS (fBl (fOp oEq (fVar 1) (fC (.int 5)))) (fRet (fOp (oMul false) (fOp oSub (fC (.int 1)) (fOp (oMul false) (fC (.int 2)) (fCall (gd 2 f_next) (fCons (fVar 0) (fCons (fC (.int 2)) fNil))))) (fOp oSub (fOp oPow (fC (.int 10)) (fC (.int 9))) (fCall (gd 2 f_next) (fCons (fVar 0) (fCons (fC (.int 3)) fNil)))))) fNext)
  (fSeq (fIfS (fBl (fOp oEq (fVar 1) (fC (.int 6)))) (fRet (fOp oSub (fCall (gd 2 f_next) (fCons (fVar 0) (fCons (fOp (oAdd false) (fOp (oMul false) (fC (.int 2)) (fOp oPow (fC (.int 10)) (fC (.int 9)))) (fC (.int 1))) fNil))) (fOp oPow (fC (.int 10)) (fC (.int 9))))) fNext)
  (fSeq (fIfS (fBl (fOp (oCm .lt) (fVar 1) (fC (.int 10)))) (fRet (fOp oIx (fLst false (fCons (fC (.str ("" : Str))) (fCons (fC (.str ("a" : Str))) (fCons (fC (.str ("ab" : Str))) (fCons (fC (.str ("z~ 9!#" : Str))) fNil))))) (fOp (oAdd false) (fOp oSub (fVar 1) (fC (.int 7))) (fOp (oMul false) (fCall oInt (fCons (fOp oEq (fCall (gd 2 f_next) (fCons (fVar 0) (fCons (fC (.int 9)) fNil))) (fC (.int 0))) fNil)) (fOp (oAdd false) (fOp oSub (fC (.int 9)) (fVar 1)) (fC (.int 1))))))) fNext)
  (fSeq (fAsg (.name 2) (fCall (gd 2 f_next) (fCons (fVar 0) (fCons (fC (.int 94)) fNil))))
  (fSeq (fAsg (.name 3) (fCall (gd 2 f_next) (fCons (fVar 0) (fCons (fC (.int 94)) fNil))))
  (fRet (fJoin (fC (.str ("" : Str))) (fLc false (iR1 (fCons (fCall (gd 2 f_next) (fCons (fVar 0) (fCons (fC (.int 7)) fNil))) fNil)) (.name 4) fYes (fOp oIx (fCall (gd 0 f_characters) fNil) (fOp oMod (fOp (oAdd false) (fVar 2) (fOp (oMul false) (fVar 3) (fVar 4))) (fC (.int 94)))) [4]))))))))))
noncomputable def f_value : FN := fnC true 5 fb_value

noncomputable def fb_bytes : FS :=
  (fSeq (fAsg (.name 1) (fLst false fNil))
  (fSeq (fFor (iSeq (fVar 0)) (.name 2) (fIfS (fTru (fCall oIsi (fCons (fVar 2) (fCons (fC (.ty "str")) fNil)))) (fSeq (fAsg (.name 3) (fCall (gd 0 f_characters) fNil))
  (fAsg (.name 1) (fOp (oAdd false) (fOp (oAdd false) (fOp (oAdd false) (fVar 1) (fLst false (fCons (fC (.int 2)) fNil))) (fLc false (iSeq (fVar 2)) (.name 7) fYes (fOp (oAdd false) (fOp (oAdd false) (fC (.int 32)) (fMt2 isL isS oLIndex oSIndex (fVar 3) (fCons (fVar 7) fNil))) (fCall oInt (fCons (fOp (oCm .gt) (fMt2 isL isS oLIndex oSIndex (fVar 3) (fCons (fVar 7) fNil)) (fC (.int 4))) fNil))) [7])) (fLst false (fCons (fC (.int 0)) fNil))))) (fSeq (fAsg (.name 4) (fOp (oAdd false) (fVar 2) (fC (.int 549755813888))))
  (fSeq (fAsg (.name 5) (fLst false fNil))
  (fSeq (fFor (iR1 (fCons (fC (.int 5)) fNil)) (.name 6) (fSeq (fAsg (.name 5) (fOp (oAdd false) (fLst false (fCons (fOp oMod (fCall oInt (fCons (fVar 4) fNil)) (fC (.int 256))) fNil)) (fVar 5)))
  (fAsg (.name 4) (fOp oFdv (fVar 4) (fC (.int 256))))))
  (fAsg (.name 1) (fOp (oAdd false) (fOp (oAdd false) (fVar 1) (fLst false (fCons (fC (.int 1)) fNil))) (fVar 5))))))))
  (fRet (fCall oTuple (fCons (fVar 1) fNil)))))
noncomputable def f_bytes : FN := fnC true 8 fb_bytes

noncomputable def fb_page_bytes : FS :=
  (fSeq (fAsg (.name 1) (fLst false (fCons (fCall oInt (fCons (fOp oEq (fOp oIx (fVar 0) (fC (.int 0))) (fC (.str ("inner" : Str)))) fNil)) (fCons (fCall oLen (fCons (fOp oIx (fVar 0) (fC (.int 1))) fNil)) fNil))))
  (fSeq (fFor (iSeq (fOp oIx (fVar 0) (fC (.int 1)))) (.tup (.cons (.name 2) (.cons (.name 3) TgL.nil))) (fIfS (fBl (fOp oEq (fOp oIx (fVar 0) (fC (.int 0))) (fC (.str ("inner" : Str))))) (fAsg (.name 1) (fOp (oAdd false) (fOp (oAdd false) (fVar 1) (fLst false (fCons (fOp oFdv (fVar 3) (fC (.int 256))) (fCons (fOp oMod (fVar 3) (fC (.int 256))) (fCons (fCall oLen (fCons (fVar 2) fNil)) fNil))))) (fCall (oList false) (fCons (fVar 2) fNil)))) (fSeq (fAsg (.name 4) (fCall (oList false) (fCons (fCall (gd 1 f_bytes) (fCons (fVar 3) fNil)) fNil)))
  (fAsg (.name 1) (fOp (oAdd false) (fOp (oAdd false) (fOp (oAdd false) (fOp (oAdd false) (fVar 1) (fLst false (fCons (fCall oLen (fCons (fVar 2) fNil)) fNil))) (fCall (oList false) (fCons (fVar 2) fNil))) (fLst false (fCons (fCall oLen (fCons (fVar 4) fNil)) fNil))) (fVar 4))))))
  (fSeq (fIfS (fBl (fOp (oCm .gt) (fCall oLen (fCons (fVar 1) fNil)) (fC (.int 256)))) (fRet (fC .non)) fNext)
  (fRet (fOp (oAdd false) (fVar 1) (fOp (oMul false) (fLst false (fCons (fC (.int 0)) fNil)) (fOp oSub (fC (.int 256)) (fCall oLen (fCons (fVar 1) fNil)))))))))
noncomputable def f_page_bytes : FN := fnC true 5 fb_page_bytes

noncomputable def fb_key : FS :=
  (fSeq (fIfS (fBl (fOp oEq (fCall (gd 2 f_next) (fCons (fVar 0) (fCons (fC (.int 3)) fNil))) (fC (.int 0)))) (fSeq (fAsg (.name 1) (fCall (gd 2 f_next) (fCons (fVar 0) (fCons (fC (.int 256)) fNil))))
  (fRet (fCall oTuple (fCons (fLc false (iR1 (fCons (fCall (gd 2 f_next) (fCons (fVar 0) (fCons (fC (.int 61)) fNil))) fNil)) (.name 2) fYes (fOp oMod (fOp (oAdd false) (fVar 1) (fOp (oMul false) (fC (.int 17)) (fVar 2))) (fC (.int 256))) [2]) fNil)))) fNext)
  (fRet (fCall (gd 1 f_bytes) (fCons (fCall oTuple (fCons (fLc false (iR1 (fCons (fCall (gd 2 f_next) (fCons (fVar 0) (fCons (fC (.int 4)) fNil))) fNil)) (.name 2) fYes (fCall (gd 1 f_value) (fCons (fVar 0) fNil)) [2]) fNil)) fNil))))
noncomputable def f_key : FN := fnC true 3 fb_key

noncomputable def fb_page : FS :=
  (fSeq (fIfS (fBl (fOp oEq (fCall (gd 2 f_next) (fCons (fVar 0) (fCons (fC (.int 2)) fNil))) (fC (.int 0)))) (fSeq (fAsg (.name 1) (fLst true fNil))
  (fSeq (fFor (iR1 (fCons (fCall (gd 2 f_next) (fCons (fVar 0) (fCons (fC (.int 13)) fNil))) fNil)) (.name 2) (fDrop (fMt isL oAppend (fVar 1) (fCons (fTup (fCons (fCall (gd 1 f_key) (fCons (fVar 0) fNil)) (fCons (fCall oTuple (fCons (fLc false (iR1 (fCons (fCall (gd 2 f_next) (fCons (fVar 0) (fCons (fC (.int 6)) fNil))) fNil)) (.name 5) fYes (fCall (gd 1 f_value) (fCons (fVar 0) fNil)) [5]) fNil)) fNil))) fNil))))
  (fRet (fTup (fCons (fC (.str ("leaf" : Str))) (fCons (fCall oTuple (fCons (fVar 1) fNil)) fNil)))))) fNext)
  (fSeq (fAsg (.name 3) (fLst true fNil))
  (fSeq (fFor (iR1 (fCons (fCall (gd 2 f_next) (fCons (fVar 0) (fCons (fC (.int 21)) fNil))) fNil)) (.name 2) (fSeq (fAsg (.name 4) (fCall (gd 1 f_key) (fCons (fVar 0) fNil)))
  (fDrop (fMt isL oAppend (fVar 3) (fCons (fTup (fCons (fOp oIx (fLst false (fCons (fVar 4) (fCons (fTup fNil) fNil))) (fCall oInt (fCons (fOp oEq (fVar 2) (fC (.int 0))) fNil))) (fCons (fCall (gd 2 f_next) (fCons (fVar 0) (fCons (fOp oIx (fLst false (fCons (fC (.int 300)) (fCons (fC (.int 65536)) fNil))) (fCall (gd 2 f_next) (fCons (fVar 0) (fCons (fC (.int 2)) fNil)))) fNil))) fNil))) fNil)))))
  (fRet (fTup (fCons (fC (.str ("inner" : Str))) (fCons (fCall oTuple (fCons (fVar 3) fNil)) fNil)))))))
noncomputable def f_page : FN := fnC true 6 fb_page

noncomputable def fb_tried : FS :=
  (fSeq (fAsg (.name 1) (fCall (oList false) (fCons (fVar 0) fNil)))
  (fSeq (fTry ct_AnswerError (some 3) (fAsg (.name 2) (fCall (gd 1 f_read_page) (fCons (fVar 1) fNil))) (fun c fs => (fRet (fAndV (fIsE (is_DamagedData c) fs) (fIsE (is_ValueError c) fs)))))
  (fSeq (fIfS (fOr (fNot (fTru (fCall oIsi (fCons (fVar 2) (fCons (fC (.ty "tuple")) fNil))))) (fOr (fBl (fOp oNe (fCall oLen (fCons (fVar 2) fNil)) (fC (.int 2)))) (fBl (fOp oNotIn (fOp oIx (fVar 2) (fC (.int 0))) (fLst false (fCons (fC (.str ("leaf" : Str))) (fCons (fC (.str ("inner" : Str))) fNil))))))) (fRet (fC (.bl false))) fNext)
  (fSeq (fIfS (fAnd (fBl (fOp oEq (fOp oIx (fVar 2) (fC (.int 0))) (fC (.str ("inner" : Str))))) (fAnd (fBl (fOp (oCm .gt) (fCall oLen (fCons (fOp oIx (fVar 2) (fC (.int 1))) fNil)) (fC (.int 0)))) (fBl (fOp oNe (fOp oIx (fOp oIx (fOp oIx (fVar 2) (fC (.int 1))) (fC (.int 0))) (fC (.int 0))) (fTup fNil))))) (fRet (fC (.bl false))) fNext)
  (fRet (fAndV (fOp oEq (fVar 1) (fVar 0)) (fCall (gd 2 (f_same 6)) (fCons (fCall (gd 1 f_page_bytes) (fCons (fVar 2) fNil)) (fCons (fVar 0) fNil)))))))))
noncomputable def f_tried : FN := fnC true 4 fb_tried

noncomputable def fb_law_1 : FS :=
  (fIfS (fNot (fTru (fCall (gd 1 f_tried) (fCons (fVar 8) fNil)))) (fRet (fC (.bl false))) fNext)
noncomputable def fb_law_2 : FS :=
  (fSeq (fAsg (.name 3) (fCall (gd 1 f_page) (fCons (fVar 1) fNil)))
  (fSeq (fAsg (.name 4) (fCall (gd 1 f_page_bytes) (fCons (fVar 3) fNil)))
  (fSeq (fIfS (fNot (fTru (fCall (gd 2 (f_same 6)) (fCons (fCall (gd 1 f_write_page) (fCons (fVar 3) fNil)) (fCons (fVar 4) fNil))))) (fRet (fC (.bl false))) fNext)
  (fIfS (fBl (fOp oNotN (fVar 4) (fC .non))) (fSeq (fIfS (fNot (fTru (fCall (gd 2 (f_same 6)) (fCons (fCall (gd 1 f_read_page) (fCons (fCall (oList false) (fCons (fVar 4) fNil)) fNil)) (fCons (fVar 3) fNil))))) (fRet (fC (.bl false))) fNext)
  (fSeq (fAsg (.name 5) (fCall (gd 2 f_next) (fCons (fVar 1) (fCons (fOp oIx (fLst false (fCons (fC (.int 12)) (fCons (fC (.int 256)) fNil))) (fCall (gd 2 f_next) (fCons (fVar 1) (fCons (fC (.int 2)) fNil)))) fNil))))
  (fSeq (fAsg (.name 6) (fOp oIx (fLst false (fCons (fCall (gd 2 f_next) (fCons (fVar 1) (fCons (fC (.int 256)) fNil))) (fCons (fCall (gd 2 f_next) (fCons (fVar 1) (fCons (fC (.int 4)) fNil))) fNil))) (fCall (gd 2 f_next) (fCons (fVar 1) (fCons (fC (.int 2)) fNil)))))
  (fSeq (fAsg (.name 7) (fLst false (fCons (fOp (oAdd false) (fOp (oAdd false) (fSl false (fVar 4) fNoPart (fPart (fVar 5))) (fLst false (fCons (fVar 6) fNil))) (fSl false (fVar 4) (fPart (fOp (oAdd false) (fVar 5) (fC (.int 1)))) fNoPart)) (fCons (fOp (oAdd false) (fOp (oAdd false) (fSl false (fVar 4) fNoPart (fPart (fVar 5))) (fSl false (fVar 4) (fPart (fOp (oAdd false) (fVar 5) (fC (.int 1)))) fNoPart)) (fLst false (fCons (fC (.int 0)) fNil))) (fCons (fOp (oAdd false) (fOp (oAdd false) (fSl false (fVar 4) fNoPart (fPart (fVar 5))) (fLst false (fCons (fVar 6) fNil))) (fSl false (fVar 4) (fPart (fVar 5)) (fPart (fC (.int 255))))) fNil)))))
  (fFor (iSeq (fOp (oAdd false) (fVar 7) (fLst false (fCons (fOp (oAdd false) (fVar 4) (fLst false (fCons (fC (.int 0)) fNil))) (fCons (fSl false (fVar 4) fNoPart (fPart (fC (.int 255)))) (fCons (fOp (oAdd false) (fSl false (fVar 4) fNoPart (fPart (fC (.int 255)))) (fLst false (fCons (fOp (oAdd false) (fC (.int 1)) (fOp oMod (fVar 6) (fC (.int 255)))) fNil))) (fCons (fLst false fNil) fNil))))))) (.name 8) fb_law_1))))) fNext))))
noncomputable def fb_law_3 : FE :=
  (fOp oIx (fLst false (fCons (fCall (gd 2 f_next) (fCons (fVar 1) (fCons (fC (.int 256)) fNil))) (fCons (fCall (gd 2 f_next) (fCons (fVar 1) (fCons (fC (.int 3)) fNil))) fNil))) (fCall (gd 2 f_next) (fCons (fVar 1) (fCons (fC (.int 2)) fNil))))
noncomputable def fb_law : FS :=
  (fSeq (fAsg (.name 1) (fLst true (fCons (fCall (oList false) (fCons (fVar 0) fNil)) (fCons (fC (.int 0)) (fCons (fC (.int 0)) (fCons (fC (.int 1)) fNil))))))
  (fSeq (fFor (iR1 (fCons (fC (.int 3)) fNil)) (.name 2) fb_law_2)
  (fSeq (fAsg (.name 9) (fLc false (iR1 (fCons (fCall (gd 2 f_next) (fCons (fVar 1) (fCons (fC (.int 30)) fNil))) fNil)) (.name 10) fYes fb_law_3 [10]))
  (fRet (fAndV (fCall (gd 1 f_tried) (fCons (fOp (oAdd false) (fVar 9) (fOp (oMul false) (fLst false (fCons (fC (.int 0)) fNil)) (fOp oSub (fC (.int 256)) (fCall oLen (fCons (fVar 9) fNil))))) fNil)) (fCall (gd 1 f_tried) (fCons (fOp (oAdd false) (fLst false (fCons (fC (.int 2)) fNil)) (fOp (oMul false) (fLst false (fCons (fC (.int 0)) fNil)) (fC (.int 255)))) fNil)))))))
noncomputable def f_law : FN := fnC true 11 fb_law
end
/-! K0 -/
section
open PySem PySem.Spec PyProof.Rows
/-! ### tuples of ints: order, equality -/
theorem datas_ints : ∀ l : List Int, P.datas (l.map .int) = some (l.map .int)
  | [] => by simp only [List.map_nil, P.datas]
  | a :: l => by simp only [List.map_cons, P.datas, P.data, datas_ints l]
theorem data_ints (l : List Int) : P.data (.tup (l.map .int)) = some (.tuple (l.map .int)) := by simp only [P.data, datas_ints, Option.map_some]
theorem data_lints (l : List Int) : P.data (.lst (l.map .int)) = some (.list (l.map .int)) := by simp only [P.data, datas_ints, Option.map_some]
theorem lay_ints : ∀ l : List Int, PyData.canLayAll0 (l.map .int) = true
  | [] => by simp only [List.map_nil, PyData.canLayAll0]
  | a :: l => by simp only [List.map_cons, PyData.canLayAll0, PyData.canLay0, lay_ints l, Bool.and_self]
theorem shaped_tints (l : List Int) : SeqAt.shaped (.tuple (l.map .int)) = true := by
  simp only [SeqAt.shaped, PyData.canLay0, PyData.depth, ints_depth, lay_ints]; decide
theorem shaped_lints (l : List Int) : SeqAt.shaped (.list (l.map .int)) = true := by
  simp only [SeqAt.shaped, PyData.canLay0, PyData.depth, ints_depth, lay_ints]; decide
theorem eqvAll_ints : ∀ a b : List Int, PyData.eqvAll (a.map .int) (b.map .int) = decide (a = b)
  | [], [] => by simp [PyData.eqvAll]
  | [], y :: b => by simp [PyData.eqvAll]
  | x :: a, [] => by simp [PyData.eqvAll]
  | x :: a, y :: b => by
    simp only [List.map_cons, PyData.eqvAll, PyData.eqv, eqvAll_ints a b]
    by_cases h : x = y <;> simp [h]
def cmI : Cm → List Int → List Int → Bool
  | .lt, a, b => lexI a b
  | .le, a, b => !lexI b a
  | .gt, a, b => lexI b a
  | .ge, a, b => !lexI a b
theorem cmpL_ints (o : Cm) (k : Nat) : ∀ a b : List Int, cmpL o (cmpO o k) (a.map .int) (b.map .int) = some (cmI o a b)
  | [], [] => by cases o <;> simp [cmpL, cmI, lexI, Cm.len]
  | [], y :: b => by cases o <;> simp [cmpL, cmI, lexI, Cm.len]
  | x :: a, [] => by cases o <;> simp [cmpL, cmI, lexI, Cm.len]
  | x :: a, y :: b => by
    have hk : ∀ x y, cmpO o k (.int x) (.int y) = some (o.int x y) := fun x y => by unfold cmpO; rfl
    simp only [List.map_cons, cmpL, PyData.eqv, cmpL_ints o k a b, hk]
    by_cases h : x = y
    · subst h
      cases o <;> simp [cmI, lexI]
    · have h' : ¬ y = x := fun e => h e.symm
      cases o
      · simp [cmI, lexI, h, Cm.int]
      · simp only [cmI, lexI, Cm.int, if_neg h, if_neg h', decide_eq_true_eq, reduceIte, decide_eq_false h]
        by_cases q : x ≤ y
        · simp [h, q] <;> omega
        · simp [h, q] <;> omega
      · simp [cmI, lexI, h, h', Cm.int]
      · simp only [cmI, lexI, Cm.int, if_neg h, if_neg h', decide_eq_true_eq, reduceIte, decide_eq_false h]
        by_cases q : y ≤ x
        · simp [h, q] <;> omega
        · simp [h, q] <;> omega
theorem cm_ints (o : Cm) (a b : List Int) (m : M) : oCm o (.tup (a.map .int)) (.tup (b.map .int)) m = .ok (.bl (cmI o a b)) m := by
  have h : cmD o (.tuple (a.map .int)) (.tuple (b.map .int)) = some (cmI o a b) := by
    have hd : decide ((PyData.tuple (a.map .int)).depth ≤ 64) = true := by simp only [PyData.depth, ints_depth]; decide
    unfold cmD
    simp only [PyData.canLay0, lay_ints, hd, Bool.and_self, if_true]
    unfold cmpO
    exact cmpL_ints o 7 a b
  show (match P.data (.tup (a.map .int)), P.data (.tup (b.map .int)) with
    | some a, some b => match cmD o a b with
      | some r => Res.ok (P.bl r) m
      | none => .stuck
    | _, _ => .stuck) = _
  rw [data_ints, data_ints]
  simp only [h]
theorem eqDat_tints (a b : List Int) (m : M) : eqDat (.tup (a.map .int)) (.tup (b.map .int)) m = some (decide (a = b)) := by
  unfold eqDat
  simp only [sh_t, data_ints, shaped_tints, Bool.and_self, if_true, PyData.eqv, eqvAll_ints]
theorem eqDat_lints (a b : List Int) (m : M) : eqDat (.lst (a.map .int)) (.lst (b.map .int)) m = some (decide (a = b)) := by
  unfold eqDat
  simp only [sh_l, data_lints, shaped_lints, Bool.and_self, if_true, PyData.eqv, eqvAll_ints]
theorem eq_tints (a b : List Int) (m : M) : oEq (.tup (a.map .int)) (.tup (b.map .int)) m = .ok (.bl (decide (a = b))) m := by
  rw [eq_tt, eqDat_tints]
theorem intsP_ints : ∀ l : List Int, intsP (l.map .int) = some l
  | [] => by simp [intsP]
  | a :: l => by simp [intsP, intsP_ints l]
theorem max_ints (a b : List Int) (m : M) : oMax2 [.tup (a.map .int), .tup (b.map .int)] m = .ok (.tup ((if lexI a b = true then b else a).map .int)) m := by
  simp only [oMax2, intsP_ints]
  split <;> rfl
theorem min_ints (a b : List Int) (m : M) : oMin2 [.tup (a.map .int), .tup (b.map .int)] m = .ok (.tup ((if lexI b a = true then b else a).map .int)) m := by
  simp only [oMin2, intsP_ints]
  split <;> rfl
theorem atI_nat' {β : Type} {xs : List β} {n : Nat} : atI xs (n : Int) = xs[n]? := by
  unfold atI ixN
  by_cases h : n < xs.length
  · rw [if_pos (by omega), if_pos (by omega)]; simp
  · rw [if_pos (by omega), if_neg (by omega), List.getElem?_eq_none (by omega)]; rfl
theorem atI_0 {β : Type} {x : β} {xs : List β} : atI (x :: xs) 0 = some x := atI_nat' (n := 0)
theorem atI_1 {β : Type} {x y : β} {xs : List β} : atI (x :: y :: xs) 1 = some y := atI_nat' (n := 1)
theorem atI_2 {β : Type} {x y z : β} {xs : List β} : atI (x :: y :: z :: xs) 2 = some z := atI_nat' (n := 2)
theorem atI_3 {β : Type} {x y z w : β} {xs : List β} : atI (x :: y :: z :: w :: xs) 3 = some w := atI_nat' (n := 3)
theorem ixN_nat' {n k : Nat} (h : k < n) : ixN n (k : Int) = some k := by
  unfold ixN
  rw [if_pos (by omega), if_pos (by omega)]; simp

end
/-! K1 -/
section
open PySem PySem.Spec PyProof.Rows

def kp (v : Kv) : P := match v with
  | .n i => .int i
  | .t x => .str (strL x)
def ip (l : List Int) : P := .tup (l.map .int)
theorem strL_len (x : List Nat) : (strL x).length = x.length := by simp [strL, Str.length]
theorem strL_cps (x : List Nat) : (strL x).cps.toList = x := by simp [strL]
theorem bytes_of_t (x : List Nat) (m : M) (hx : x.length ≤ 1000) : f_bytes_of [.str (strL x)] m = .ok (.lst ((kb (.t x)).map .int)) m := by
  have hl : lcG (.name 4) fYes (fCall oOrd (fCons (fVar 4) fNil)) [] [some (.str (strL x)), none, none, none, none] (x.map fun c => .str ⟨#[c]⟩) m = .ok (x.map fun (c : Nat) => .int (c : Int)) m :=
    lcG_map fun c _ => by simp [mkL_f, mkL_t, wipeP, mulOk, lw_l, lw_c, lv_l, lv_c, lv_x, sv_l, sv_c, sv_x, sv_t, lw_i, lw_s, lw_t, lv_s, lv_t, lv_i, lv_n, add_ii, add_ss, add_tt, add_ll, add_lc, add_cl, add_cc, sub_ii, plus_ii, mul_ii, mul_li, fdv_ii, mod_ii, pow_ii, neg_i, sh_i, sh_s, sh_t, sh_l, sh_n, sh_b, sh_c, eq_nn, ne_nn, eq_ni, ne_ni, eq_in, ne_in, eq_nb, ne_nb, eq_bn, ne_bn, eq_ns, ne_ns, eq_sn, ne_sn, eq_ii, ne_ii, eq_bb, ne_bb, eq_ss, ne_ss, eq_is, ne_is, eq_si, ne_si, eq_bs, ne_bs, eq_sb, ne_sb, isn_n, non_n, isn_i, non_i, isn_b, non_b, isn_s, non_s, isn_t, non_t, isn_l, non_l, isn_c, non_c, isn_x, non_x, tru_n, tru_b, tru_i, tru_t, tru_l, notv_b, ix_t, ix_s, ix_l, ix_x, ix_c, ixl_c, sl_t, sl_s, sl_l, sl_c, rev_l, rev_c, len_t, len_l, len_x, len_s, len_c, list_t, list_l, list_x, list_c, tuple_t, tuple_l, tuple_c, int_i, int_b, abs_i, ord_s, isi_n, isi_b, isi_i, isi_s, isi_t, isi_l, isi_c, kindc, max_ii, min_ii, app_c, ext_c, set_c, sidx_ss, cm_ii, cm_ile, cm_igt, cm_ige, isl_l, isl_c, isl_s, iss_s, iss_l, b_ok, b_st, b_ex, o_ok, o_st, o_ex, c_ok, c_st, c_ex, fin_rt, fin_nx, fin_st, nx_nx, nx_rt, nx_bk, nx_ct, nx_ex, nx_st, e_seq, e_var, e_c, e_op, e_un, e_nil, e_cons, e_call, e_tup, e_lst, e_otup, e_olst, e_gd, e_asg, e_drop, e_ret, e_retN, e_next, e_brk, e_cont, e_ifs, e_setS, e_aug, e_augS, e_tru, e_bl, e_and, e_or, e_not, e_andV, e_orV, e_notV, e_if, e_chain, e_nop, e_part, e_sl, e_iSeq, e_iR1, e_iR2, rngOk_of, rngOk2_of, e_for, e_lc, e_yes, e_mt, e_mt2, e_join, e_put, e_fits, Tg.put, TgL.puts, Str.length]
  have h1 : x.length ≤ 100000 := by omega
  have h2 : 1 + x.length ≤ 100000 := by omega
  have h3 : x.length ≤ 99998 := by omega
  unfold f_bytes_of fnC fnF fb_bytes_of
  simp [mkL_f, mkL_t, wipeP, mulOk, lw_l, lw_c, lv_l, lv_c, lv_x, sv_l, sv_c, sv_x, sv_t, lw_i, lw_s, lw_t, lv_s, lv_t, lv_i, lv_n, add_ii, add_ss, add_tt, add_ll, add_lc, add_cl, add_cc, sub_ii, plus_ii, mul_ii, mul_li, fdv_ii, mod_ii, pow_ii, neg_i, sh_i, sh_s, sh_t, sh_l, sh_n, sh_b, sh_c, eq_nn, ne_nn, eq_ni, ne_ni, eq_in, ne_in, eq_nb, ne_nb, eq_bn, ne_bn, eq_ns, ne_ns, eq_sn, ne_sn, eq_ii, ne_ii, eq_bb, ne_bb, eq_ss, ne_ss, eq_is, ne_is, eq_si, ne_si, eq_bs, ne_bs, eq_sb, ne_sb, isn_n, non_n, isn_i, non_i, isn_b, non_b, isn_s, non_s, isn_t, non_t, isn_l, non_l, isn_c, non_c, isn_x, non_x, tru_n, tru_b, tru_i, tru_t, tru_l, notv_b, ix_t, ix_s, ix_l, ix_x, ix_c, ixl_c, sl_t, sl_s, sl_l, sl_c, rev_l, rev_c, len_t, len_l, len_x, len_s, len_c, list_t, list_l, list_x, list_c, tuple_t, tuple_l, tuple_c, int_i, int_b, abs_i, ord_s, isi_n, isi_b, isi_i, isi_s, isi_t, isi_l, isi_c, kindc, max_ii, min_ii, app_c, ext_c, set_c, sidx_ss, cm_ii, cm_ile, cm_igt, cm_ige, isl_l, isl_c, isl_s, iss_s, iss_l, b_ok, b_st, b_ex, o_ok, o_st, o_ex, c_ok, c_st, c_ex, fin_rt, fin_nx, fin_st, nx_nx, nx_rt, nx_bk, nx_ct, nx_ex, nx_st, e_seq, e_var, e_c, e_op, e_un, e_nil, e_cons, e_call, e_tup, e_lst, e_otup, e_olst, e_gd, e_asg, e_drop, e_ret, e_retN, e_next, e_brk, e_cont, e_ifs, e_setS, e_aug, e_augS, e_tru, e_bl, e_and, e_or, e_not, e_andV, e_orV, e_notV, e_if, e_chain, e_nop, e_part, e_sl, e_iSeq, e_iR1, e_iR2, rngOk_of, rngOk2_of, e_for, e_lc, e_yes, e_mt, e_mt2, e_join, e_put, e_fits, Tg.put, TgL.puts, startP, strL_cps, hl, h1, h2, h3]
  rw [cut_tree0 (by simp [uns_all])]
  simp [mkL_f, mkL_t, wipeP, mulOk, lw_l, lw_c, lv_l, lv_c, lv_x, sv_l, sv_c, sv_x, sv_t, lw_i, lw_s, lw_t, lv_s, lv_t, lv_i, lv_n, add_ii, add_ss, add_tt, add_ll, add_lc, add_cl, add_cc, sub_ii, plus_ii, mul_ii, mul_li, fdv_ii, mod_ii, pow_ii, neg_i, sh_i, sh_s, sh_t, sh_l, sh_n, sh_b, sh_c, eq_nn, ne_nn, eq_ni, ne_ni, eq_in, ne_in, eq_nb, ne_nb, eq_bn, ne_bn, eq_ns, ne_ns, eq_sn, ne_sn, eq_ii, ne_ii, eq_bb, ne_bb, eq_ss, ne_ss, eq_is, ne_is, eq_si, ne_si, eq_bs, ne_bs, eq_sb, ne_sb, isn_n, non_n, isn_i, non_i, isn_b, non_b, isn_s, non_s, isn_t, non_t, isn_l, non_l, isn_c, non_c, isn_x, non_x, tru_n, tru_b, tru_i, tru_t, tru_l, notv_b, ix_t, ix_s, ix_l, ix_x, ix_c, ixl_c, sl_t, sl_s, sl_l, sl_c, rev_l, rev_c, len_t, len_l, len_x, len_s, len_c, list_t, list_l, list_x, list_c, tuple_t, tuple_l, tuple_c, int_i, int_b, abs_i, ord_s, isi_n, isi_b, isi_i, isi_s, isi_t, isi_l, isi_c, kindc, max_ii, min_ii, app_c, ext_c, set_c, sidx_ss, cm_ii, cm_ile, cm_igt, cm_ige, isl_l, isl_c, isl_s, iss_s, iss_l, b_ok, b_st, b_ex, o_ok, o_st, o_ex, c_ok, c_st, c_ex, fin_rt, fin_nx, fin_st, nx_nx, nx_rt, nx_bk, nx_ct, nx_ex, nx_st, e_seq, e_var, e_c, e_op, e_un, e_nil, e_cons, e_call, e_tup, e_lst, e_otup, e_olst, e_gd, e_asg, e_drop, e_ret, e_retN, e_next, e_brk, e_cont, e_ifs, e_setS, e_aug, e_augS, e_tru, e_bl, e_and, e_or, e_not, e_andV, e_orV, e_notV, e_if, e_chain, e_nop, e_part, e_sl, e_iSeq, e_iR1, e_iR2, rngOk_of, rngOk2_of, e_for, e_lc, e_yes, e_mt, e_mt2, e_join, e_put, e_fits, Tg.put, TgL.puts, kb, Function.comp_def]
theorem bytes_of_n (i : Int) (m : M) : f_bytes_of [.int i] m = .ok (.lst ((kb (.n i)).map .int)) m := by
  unfold f_bytes_of fnC fnF fb_bytes_of
  simp [mkL_f, mkL_t, wipeP, mulOk, lw_l, lw_c, lv_l, lv_c, lv_x, sv_l, sv_c, sv_x, sv_t, lw_i, lw_s, lw_t, lv_s, lv_t, lv_i, lv_n, add_ii, add_ss, add_tt, add_ll, add_lc, add_cl, add_cc, sub_ii, plus_ii, mul_ii, mul_li, fdv_ii, mod_ii, pow_ii, neg_i, sh_i, sh_s, sh_t, sh_l, sh_n, sh_b, sh_c, eq_nn, ne_nn, eq_ni, ne_ni, eq_in, ne_in, eq_nb, ne_nb, eq_bn, ne_bn, eq_ns, ne_ns, eq_sn, ne_sn, eq_ii, ne_ii, eq_bb, ne_bb, eq_ss, ne_ss, eq_is, ne_is, eq_si, ne_si, eq_bs, ne_bs, eq_sb, ne_sb, isn_n, non_n, isn_i, non_i, isn_b, non_b, isn_s, non_s, isn_t, non_t, isn_l, non_l, isn_c, non_c, isn_x, non_x, tru_n, tru_b, tru_i, tru_t, tru_l, notv_b, ix_t, ix_s, ix_l, ix_x, ix_c, ixl_c, sl_t, sl_s, sl_l, sl_c, rev_l, rev_c, len_t, len_l, len_x, len_s, len_c, list_t, list_l, list_x, list_c, tuple_t, tuple_l, tuple_c, int_i, int_b, abs_i, ord_s, isi_n, isi_b, isi_i, isi_s, isi_t, isi_l, isi_c, kindc, max_ii, min_ii, app_c, ext_c, set_c, sidx_ss, cm_ii, cm_ile, cm_igt, cm_ige, isl_l, isl_c, isl_s, iss_s, iss_l, b_ok, b_st, b_ex, o_ok, o_st, o_ex, c_ok, c_st, c_ex, fin_rt, fin_nx, fin_st, nx_nx, nx_rt, nx_bk, nx_ct, nx_ex, nx_st, e_seq, e_var, e_c, e_op, e_un, e_nil, e_cons, e_call, e_tup, e_lst, e_otup, e_olst, e_gd, e_asg, e_drop, e_ret, e_retN, e_next, e_brk, e_cont, e_ifs, e_setS, e_aug, e_augS, e_tru, e_bl, e_and, e_or, e_not, e_andV, e_orV, e_notV, e_if, e_chain, e_nop, e_part, e_sl, e_iSeq, e_iR1, e_iR2, rngOk_of, rngOk2_of, e_for, e_lc, e_yes, e_mt, e_mt2, e_join, e_put, e_fits, Tg.put, TgL.puts, startP, rngP, List.range_succ, forG_cons, forG_nil]
  rw [cut_tree (by simp)]
  simp [mkL_f, mkL_t, wipeP, mulOk, lw_l, lw_c, lv_l, lv_c, lv_x, sv_l, sv_c, sv_x, sv_t, lw_i, lw_s, lw_t, lv_s, lv_t, lv_i, lv_n, add_ii, add_ss, add_tt, add_ll, add_lc, add_cl, add_cc, sub_ii, plus_ii, mul_ii, mul_li, fdv_ii, mod_ii, pow_ii, neg_i, sh_i, sh_s, sh_t, sh_l, sh_n, sh_b, sh_c, eq_nn, ne_nn, eq_ni, ne_ni, eq_in, ne_in, eq_nb, ne_nb, eq_bn, ne_bn, eq_ns, ne_ns, eq_sn, ne_sn, eq_ii, ne_ii, eq_bb, ne_bb, eq_ss, ne_ss, eq_is, ne_is, eq_si, ne_si, eq_bs, ne_bs, eq_sb, ne_sb, isn_n, non_n, isn_i, non_i, isn_b, non_b, isn_s, non_s, isn_t, non_t, isn_l, non_l, isn_c, non_c, isn_x, non_x, tru_n, tru_b, tru_i, tru_t, tru_l, notv_b, ix_t, ix_s, ix_l, ix_x, ix_c, ixl_c, sl_t, sl_s, sl_l, sl_c, rev_l, rev_c, len_t, len_l, len_x, len_s, len_c, list_t, list_l, list_x, list_c, tuple_t, tuple_l, tuple_c, int_i, int_b, abs_i, ord_s, isi_n, isi_b, isi_i, isi_s, isi_t, isi_l, isi_c, kindc, max_ii, min_ii, app_c, ext_c, set_c, sidx_ss, cm_ii, cm_ile, cm_igt, cm_ige, isl_l, isl_c, isl_s, iss_s, iss_l, b_ok, b_st, b_ex, o_ok, o_st, o_ex, c_ok, c_st, c_ex, fin_rt, fin_nx, fin_st, nx_nx, nx_rt, nx_bk, nx_ct, nx_ex, nx_st, e_seq, e_var, e_c, e_op, e_un, e_nil, e_cons, e_call, e_tup, e_lst, e_otup, e_olst, e_gd, e_asg, e_drop, e_ret, e_retN, e_next, e_brk, e_cont, e_ifs, e_setS, e_aug, e_augS, e_tru, e_bl, e_and, e_or, e_not, e_andV, e_orV, e_notV, e_if, e_chain, e_nop, e_part, e_sl, e_iSeq, e_iR1, e_iR2, rngOk_of, rngOk2_of, e_for, e_lc, e_yes, e_mt, e_mt2, e_join, e_put, e_fits, Tg.put, TgL.puts, kb, dig5]
  omega
theorem kb_len (v : Kv) : (kb v).length ≤ 6 ∨ ∃ x, v = .t x ∧ (kb v).length = x.length + 2 := by
  cases v with
  | n i => exact .inl (by simp [kb, dig5])
  | t x => exact .inr ⟨x, rfl, by simp [kb]⟩
theorem kb_len8 {v : Kv} (h : v.Good) : (kb v).length ≤ 8 := by
  rcases kb_len v with q | ⟨x, rfl, q⟩
  · omega
  · have := h.1; omega
theorem bytes_of_k {v : Kv} (h : v.Good) (m : M) : f_bytes_of [kp v] m = .ok (.lst ((kb v).map .int)) m := by
  cases v with
  | n i => exact bytes_of_n i m
  | t x => exact bytes_of_t x m (by have := h.1; omega)
theorem keyB_len {vs : List Kv} (h : ∀ v ∈ vs, v.Good) : (keyB vs).length ≤ 8 * vs.length := by
  induction vs with
  | nil => simp [keyB]
  | cons v vs ih =>
    have h1 := kb_len8 (h v List.mem_cons_self)
    have h2 := ih fun w hw => h w (List.mem_cons_of_mem _ hw)
    simp only [keyB, List.length_append, List.length_cons]
    omega
theorem key_of_k {vs : List Kv} (h : ∀ v ∈ vs, v.Good) (hl : vs.length ≤ 1000) (m : M) : f_key_of [.tup (vs.map kp)] m = .ok (ip (keyB vs)) m := by
  have loop : ∀ (ws : List Kv) (acc : List Int) (a : P) (o : Option P), (∀ v ∈ ws, v.Good) → acc.length + 8 * ws.length ≤ 100000 →
      ∃ o', forG (.name 2) (fDrop (fMt isL oExtend (fVar 1) (fCons (fCall (gd 1 f_bytes_of) (fCons (fVar 2) fNil)) fNil))) [] (ws.map kp) [some a, some (.cell m.length), o] (m ++ [.lst (acc.map .int)]) = .nx [some a, some (.cell m.length), o'] (m ++ [.lst ((acc ++ keyB ws).map .int)]) := by
    intro ws
    induction ws with
    | nil => intro acc a o _ _; exact ⟨o, by simp [forG_nil, keyB]⟩
    | cons v ws ih =>
      intro acc a o hg hl
      have h1 := kb_len8 (hg v List.mem_cons_self)
      simp only [List.length_cons] at hl
      have h2 : acc.length + (kb v).length ≤ 100000 := by omega
      obtain ⟨o', ho⟩ := ih (acc ++ kb v) a (some (kp v)) (fun w hw => hg w (List.mem_cons_of_mem _ hw)) (by simp only [List.length_append]; omega)
      refine ⟨o', ?_⟩
      rw [List.map_cons, forG_cons]
      simp [mkL_f, mkL_t, wipeP, mulOk, lw_l, lw_c, lv_l, lv_c, lv_x, sv_l, sv_c, sv_x, sv_t, lw_i, lw_s, lw_t, lv_s, lv_t, lv_i, lv_n, add_ii, add_ss, add_tt, add_ll, add_lc, add_cl, add_cc, sub_ii, plus_ii, mul_ii, mul_li, fdv_ii, mod_ii, pow_ii, neg_i, sh_i, sh_s, sh_t, sh_l, sh_n, sh_b, sh_c, eq_nn, ne_nn, eq_ni, ne_ni, eq_in, ne_in, eq_nb, ne_nb, eq_bn, ne_bn, eq_ns, ne_ns, eq_sn, ne_sn, eq_ii, ne_ii, eq_bb, ne_bb, eq_ss, ne_ss, eq_is, ne_is, eq_si, ne_si, eq_bs, ne_bs, eq_sb, ne_sb, isn_n, non_n, isn_i, non_i, isn_b, non_b, isn_s, non_s, isn_t, non_t, isn_l, non_l, isn_c, non_c, isn_x, non_x, tru_n, tru_b, tru_i, tru_t, tru_l, notv_b, ix_t, ix_s, ix_l, ix_x, ix_c, ixl_c, sl_t, sl_s, sl_l, sl_c, rev_l, rev_c, len_t, len_l, len_x, len_s, len_c, list_t, list_l, list_x, list_c, tuple_t, tuple_l, tuple_c, int_i, int_b, abs_i, ord_s, isi_n, isi_b, isi_i, isi_s, isi_t, isi_l, isi_c, kindc, max_ii, min_ii, app_c, ext_c, set_c, sidx_ss, cm_ii, cm_ile, cm_igt, cm_ige, isl_l, isl_c, isl_s, iss_s, iss_l, b_ok, b_st, b_ex, o_ok, o_st, o_ex, c_ok, c_st, c_ex, fin_rt, fin_nx, fin_st, nx_nx, nx_rt, nx_bk, nx_ct, nx_ex, nx_st, e_seq, e_var, e_c, e_op, e_un, e_nil, e_cons, e_call, e_tup, e_lst, e_otup, e_olst, e_gd, e_asg, e_drop, e_ret, e_retN, e_next, e_brk, e_cont, e_ifs, e_setS, e_aug, e_augS, e_tru, e_bl, e_and, e_or, e_not, e_andV, e_orV, e_notV, e_if, e_chain, e_nop, e_part, e_sl, e_iSeq, e_iR1, e_iR2, rngOk_of, rngOk2_of, e_for, e_lc, e_yes, e_mt, e_mt2, e_join, e_put, e_fits, Tg.put, TgL.puts, bytes_of_k (hg v List.mem_cons_self), h2]
      simp [keyB] at ho
      simpa [keyB] using ho
  obtain ⟨o', ho⟩ := loop vs [] (.tup (vs.map kp)) none h (by simp; omega)
  simp at ho
  unfold f_key_of fnC fnF fb_key_of
  simp [mkL_f, mkL_t, wipeP, mulOk, lw_l, lw_c, lv_l, lv_c, lv_x, sv_l, sv_c, sv_x, sv_t, lw_i, lw_s, lw_t, lv_s, lv_t, lv_i, lv_n, add_ii, add_ss, add_tt, add_ll, add_lc, add_cl, add_cc, sub_ii, plus_ii, mul_ii, mul_li, fdv_ii, mod_ii, pow_ii, neg_i, sh_i, sh_s, sh_t, sh_l, sh_n, sh_b, sh_c, eq_nn, ne_nn, eq_ni, ne_ni, eq_in, ne_in, eq_nb, ne_nb, eq_bn, ne_bn, eq_ns, ne_ns, eq_sn, ne_sn, eq_ii, ne_ii, eq_bb, ne_bb, eq_ss, ne_ss, eq_is, ne_is, eq_si, ne_si, eq_bs, ne_bs, eq_sb, ne_sb, isn_n, non_n, isn_i, non_i, isn_b, non_b, isn_s, non_s, isn_t, non_t, isn_l, non_l, isn_c, non_c, isn_x, non_x, tru_n, tru_b, tru_i, tru_t, tru_l, notv_b, ix_t, ix_s, ix_l, ix_x, ix_c, ixl_c, sl_t, sl_s, sl_l, sl_c, rev_l, rev_c, len_t, len_l, len_x, len_s, len_c, list_t, list_l, list_x, list_c, tuple_t, tuple_l, tuple_c, int_i, int_b, abs_i, ord_s, isi_n, isi_b, isi_i, isi_s, isi_t, isi_l, isi_c, kindc, max_ii, min_ii, app_c, ext_c, set_c, sidx_ss, cm_ii, cm_ile, cm_igt, cm_ige, isl_l, isl_c, isl_s, iss_s, iss_l, b_ok, b_st, b_ex, o_ok, o_st, o_ex, c_ok, c_st, c_ex, fin_rt, fin_nx, fin_st, nx_nx, nx_rt, nx_bk, nx_ct, nx_ex, nx_st, e_seq, e_var, e_c, e_op, e_un, e_nil, e_cons, e_call, e_tup, e_lst, e_otup, e_olst, e_gd, e_asg, e_drop, e_ret, e_retN, e_next, e_brk, e_cont, e_ifs, e_setS, e_aug, e_augS, e_tru, e_bl, e_and, e_or, e_not, e_andV, e_orV, e_notV, e_if, e_chain, e_nop, e_part, e_sl, e_iSeq, e_iR1, e_iR2, rngOk_of, rngOk2_of, e_for, e_lc, e_yes, e_mt, e_mt2, e_join, e_put, e_fits, Tg.put, TgL.puts, startP, ho]
  rw [cut_tree (by simp)]
  simp [mkL_f, mkL_t, wipeP, mulOk, lw_l, lw_c, lv_l, lv_c, lv_x, sv_l, sv_c, sv_x, sv_t, lw_i, lw_s, lw_t, lv_s, lv_t, lv_i, lv_n, add_ii, add_ss, add_tt, add_ll, add_lc, add_cl, add_cc, sub_ii, plus_ii, mul_ii, mul_li, fdv_ii, mod_ii, pow_ii, neg_i, sh_i, sh_s, sh_t, sh_l, sh_n, sh_b, sh_c, eq_nn, ne_nn, eq_ni, ne_ni, eq_in, ne_in, eq_nb, ne_nb, eq_bn, ne_bn, eq_ns, ne_ns, eq_sn, ne_sn, eq_ii, ne_ii, eq_bb, ne_bb, eq_ss, ne_ss, eq_is, ne_is, eq_si, ne_si, eq_bs, ne_bs, eq_sb, ne_sb, isn_n, non_n, isn_i, non_i, isn_b, non_b, isn_s, non_s, isn_t, non_t, isn_l, non_l, isn_c, non_c, isn_x, non_x, tru_n, tru_b, tru_i, tru_t, tru_l, notv_b, ix_t, ix_s, ix_l, ix_x, ix_c, ixl_c, sl_t, sl_s, sl_l, sl_c, rev_l, rev_c, len_t, len_l, len_x, len_s, len_c, list_t, list_l, list_x, list_c, tuple_t, tuple_l, tuple_c, int_i, int_b, abs_i, ord_s, isi_n, isi_b, isi_i, isi_s, isi_t, isi_l, isi_c, kindc, max_ii, min_ii, app_c, ext_c, set_c, sidx_ss, cm_ii, cm_ile, cm_igt, cm_ige, isl_l, isl_c, isl_s, iss_s, iss_l, b_ok, b_st, b_ex, o_ok, o_st, o_ex, c_ok, c_st, c_ex, fin_rt, fin_nx, fin_st, nx_nx, nx_rt, nx_bk, nx_ct, nx_ex, nx_st, e_seq, e_var, e_c, e_op, e_un, e_nil, e_cons, e_call, e_tup, e_lst, e_otup, e_olst, e_gd, e_asg, e_drop, e_ret, e_retN, e_next, e_brk, e_cont, e_ifs, e_setS, e_aug, e_augS, e_tru, e_bl, e_and, e_or, e_not, e_andV, e_orV, e_notV, e_if, e_chain, e_nop, e_part, e_sl, e_iSeq, e_iR1, e_iR2, rngOk_of, rngOk2_of, e_for, e_lc, e_yes, e_mt, e_mt2, e_join, e_put, e_fits, Tg.put, TgL.puts, ip]
def kpr (v : Kv) : P := .tup [.int v.kind, kp v]
theorem before_at : ∀ n : Nat, n < 5 → ((" !\"#$" : Str)).cps.toList[n]? = some (n + 32) := by decide +kernel
theorem before_len : ((" !\"#$" : Str)).length = 5 := by decide +kernel
theorem after_at : ∀ n : Nat, n < 89 → (("&'()*+,-./0123456789:;<=>?@ABCDEFGHIJKLMNOPQRSTUVWXYZ[\\]^_`abcdefghijklmnopqrstuvwxyz{|}~" : Str)).cps.toList[n]? = some (n + 38) := by decide +kernel
theorem after_len : (("&'()*+,-./0123456789:;<=>?@ABCDEFGHIJKLMNOPQRSTUVWXYZ[\\]^_`abcdefghijklmnopqrstuvwxyz{|}~" : Str)).length = 89 := by decide +kernel
theorem character_k (c : Int) (m : M) : f_character_of [.int c] m = .ok (if 32 ≤ c ∧ c ≤ 126 ∧ c ≠ 37 then .str ⟨#[c.toNat]⟩ else .non) m := by
  unfold f_character_of fnC fnF fb_character_of
  by_cases h1 : 32 ≤ c ∧ c < 37
  · obtain ⟨n, rfl⟩ : ∃ n : Nat, c = (n : Int) + 32 := ⟨(c - 32).toNat, by omega⟩
    have e1 : (32 : Int) ≤ n + 32 := by omega
    have e2 : (n : Int) + 32 < 37 := by omega
    have e3 : 32 ≤ (n : Int) + 32 ∧ (n : Int) + 32 ≤ 126 ∧ (n : Int) + 32 ≠ 37 := by omega
    have e4 : ((n : Int) + 32).toNat = n + 32 := by omega
    have e5 : (n : Int) < 5 := by omega
    rw [if_pos e3, e4]
    simp [mkL_f, mkL_t, wipeP, mulOk, lw_l, lw_c, lv_l, lv_c, lv_x, sv_l, sv_c, sv_x, sv_t, lw_i, lw_s, lw_t, lv_s, lv_t, lv_i, lv_n, add_ii, add_ss, add_tt, add_ll, add_lc, add_cl, add_cc, sub_ii, plus_ii, mul_ii, mul_li, fdv_ii, mod_ii, pow_ii, neg_i, sh_i, sh_s, sh_t, sh_l, sh_n, sh_b, sh_c, eq_nn, ne_nn, eq_ni, ne_ni, eq_in, ne_in, eq_nb, ne_nb, eq_bn, ne_bn, eq_ns, ne_ns, eq_sn, ne_sn, eq_ii, ne_ii, eq_bb, ne_bb, eq_ss, ne_ss, eq_is, ne_is, eq_si, ne_si, eq_bs, ne_bs, eq_sb, ne_sb, isn_n, non_n, isn_i, non_i, isn_b, non_b, isn_s, non_s, isn_t, non_t, isn_l, non_l, isn_c, non_c, isn_x, non_x, tru_n, tru_b, tru_i, tru_t, tru_l, notv_b, ix_t, ix_s, ix_l, ix_x, ix_c, ixl_c, sl_t, sl_s, sl_l, sl_c, rev_l, rev_c, len_t, len_l, len_x, len_s, len_c, list_t, list_l, list_x, list_c, tuple_t, tuple_l, tuple_c, int_i, int_b, abs_i, ord_s, isi_n, isi_b, isi_i, isi_s, isi_t, isi_l, isi_c, kindc, max_ii, min_ii, app_c, ext_c, set_c, sidx_ss, cm_ii, cm_ile, cm_igt, cm_ige, isl_l, isl_c, isl_s, iss_s, iss_l, b_ok, b_st, b_ex, o_ok, o_st, o_ex, c_ok, c_st, c_ex, fin_rt, fin_nx, fin_st, nx_nx, nx_rt, nx_bk, nx_ct, nx_ex, nx_st, e_seq, e_var, e_c, e_op, e_un, e_nil, e_cons, e_call, e_tup, e_lst, e_otup, e_olst, e_gd, e_asg, e_drop, e_ret, e_retN, e_next, e_brk, e_cont, e_ifs, e_setS, e_aug, e_augS, e_tru, e_bl, e_and, e_or, e_not, e_andV, e_orV, e_notV, e_if, e_chain, e_nop, e_part, e_sl, e_iSeq, e_iR1, e_iR2, rngOk_of, rngOk2_of, e_for, e_lc, e_yes, e_mt, e_mt2, e_join, e_put, e_fits, Tg.put, TgL.puts, startP, e1, e2, e5, before_len, atI_nat', before_at n (by omega), cut_tree0]
  · by_cases h2 : 37 < c ∧ c < 127
    · obtain ⟨n, rfl⟩ : ∃ n : Nat, c = (n : Int) + 38 := ⟨(c - 38).toNat, by omega⟩
      have e1 : (32 : Int) ≤ n + 38 := by omega
      have e2 : ¬ (n : Int) + 38 < 37 := by omega
      have e3 : 32 ≤ (n : Int) + 38 ∧ (n : Int) + 38 ≤ 126 ∧ (n : Int) + 38 ≠ 37 := by omega
      have e4 : ((n : Int) + 38).toNat = n + 38 := by omega
      have e6 : (37 : Int) < n + 38 := by omega
      have e7 : (n : Int) + 38 < 127 := by omega
      have e8 : (n : Int) < 89 := by omega
      rw [if_pos e3, e4]
      simp [mkL_f, mkL_t, wipeP, mulOk, lw_l, lw_c, lv_l, lv_c, lv_x, sv_l, sv_c, sv_x, sv_t, lw_i, lw_s, lw_t, lv_s, lv_t, lv_i, lv_n, add_ii, add_ss, add_tt, add_ll, add_lc, add_cl, add_cc, sub_ii, plus_ii, mul_ii, mul_li, fdv_ii, mod_ii, pow_ii, neg_i, sh_i, sh_s, sh_t, sh_l, sh_n, sh_b, sh_c, eq_nn, ne_nn, eq_ni, ne_ni, eq_in, ne_in, eq_nb, ne_nb, eq_bn, ne_bn, eq_ns, ne_ns, eq_sn, ne_sn, eq_ii, ne_ii, eq_bb, ne_bb, eq_ss, ne_ss, eq_is, ne_is, eq_si, ne_si, eq_bs, ne_bs, eq_sb, ne_sb, isn_n, non_n, isn_i, non_i, isn_b, non_b, isn_s, non_s, isn_t, non_t, isn_l, non_l, isn_c, non_c, isn_x, non_x, tru_n, tru_b, tru_i, tru_t, tru_l, notv_b, ix_t, ix_s, ix_l, ix_x, ix_c, ixl_c, sl_t, sl_s, sl_l, sl_c, rev_l, rev_c, len_t, len_l, len_x, len_s, len_c, list_t, list_l, list_x, list_c, tuple_t, tuple_l, tuple_c, int_i, int_b, abs_i, ord_s, isi_n, isi_b, isi_i, isi_s, isi_t, isi_l, isi_c, kindc, max_ii, min_ii, app_c, ext_c, set_c, sidx_ss, cm_ii, cm_ile, cm_igt, cm_ige, isl_l, isl_c, isl_s, iss_s, iss_l, b_ok, b_st, b_ex, o_ok, o_st, o_ex, c_ok, c_st, c_ex, fin_rt, fin_nx, fin_st, nx_nx, nx_rt, nx_bk, nx_ct, nx_ex, nx_st, e_seq, e_var, e_c, e_op, e_un, e_nil, e_cons, e_call, e_tup, e_lst, e_otup, e_olst, e_gd, e_asg, e_drop, e_ret, e_retN, e_next, e_brk, e_cont, e_ifs, e_setS, e_aug, e_augS, e_tru, e_bl, e_and, e_or, e_not, e_andV, e_orV, e_notV, e_if, e_chain, e_nop, e_part, e_sl, e_iSeq, e_iR1, e_iR2, rngOk_of, rngOk2_of, e_for, e_lc, e_yes, e_mt, e_mt2, e_join, e_put, e_fits, Tg.put, TgL.puts, startP, e1, e2, e6, e7, e8, after_len, atI_nat', after_at n (by omega), cut_tree0]
    · rw [if_neg (by omega)]
      have k1 : decide (32 ≤ c) = false ∨ decide (c < 37) = false := by
        rcases Int.lt_or_le c 32 with q | q
        · exact .inl (decide_eq_false (by omega))
        · exact .inr (decide_eq_false (by omega))
      have k2 : decide (37 < c) = false ∨ decide (c < 127) = false := by
        rcases Int.lt_or_le 37 c with q | q
        · exact .inr (decide_eq_false (by omega))
        · exact .inl (decide_eq_false (by omega))
      have e3 : (fBl (fChain (oCm .le) (oCm .lt) (fC (.int 32)) (fVar 0) (fC (.int 37)))) [some (.int c)] m = .ok false m := by
        rcases k1 with q | q
        · simp [mkL_f, mkL_t, wipeP, mulOk, lw_l, lw_c, lv_l, lv_c, lv_x, sv_l, sv_c, sv_x, sv_t, lw_i, lw_s, lw_t, lv_s, lv_t, lv_i, lv_n, add_ii, add_ss, add_tt, add_ll, add_lc, add_cl, add_cc, sub_ii, plus_ii, mul_ii, mul_li, fdv_ii, mod_ii, pow_ii, neg_i, sh_i, sh_s, sh_t, sh_l, sh_n, sh_b, sh_c, eq_nn, ne_nn, eq_ni, ne_ni, eq_in, ne_in, eq_nb, ne_nb, eq_bn, ne_bn, eq_ns, ne_ns, eq_sn, ne_sn, eq_ii, ne_ii, eq_bb, ne_bb, eq_ss, ne_ss, eq_is, ne_is, eq_si, ne_si, eq_bs, ne_bs, eq_sb, ne_sb, isn_n, non_n, isn_i, non_i, isn_b, non_b, isn_s, non_s, isn_t, non_t, isn_l, non_l, isn_c, non_c, isn_x, non_x, tru_n, tru_b, tru_i, tru_t, tru_l, notv_b, ix_t, ix_s, ix_l, ix_x, ix_c, ixl_c, sl_t, sl_s, sl_l, sl_c, rev_l, rev_c, len_t, len_l, len_x, len_s, len_c, list_t, list_l, list_x, list_c, tuple_t, tuple_l, tuple_c, int_i, int_b, abs_i, ord_s, isi_n, isi_b, isi_i, isi_s, isi_t, isi_l, isi_c, kindc, max_ii, min_ii, app_c, ext_c, set_c, sidx_ss, cm_ii, cm_ile, cm_igt, cm_ige, isl_l, isl_c, isl_s, iss_s, iss_l, b_ok, b_st, b_ex, o_ok, o_st, o_ex, c_ok, c_st, c_ex, fin_rt, fin_nx, fin_st, nx_nx, nx_rt, nx_bk, nx_ct, nx_ex, nx_st, e_seq, e_var, e_c, e_op, e_un, e_nil, e_cons, e_call, e_tup, e_lst, e_otup, e_olst, e_gd, e_asg, e_drop, e_ret, e_retN, e_next, e_brk, e_cont, e_ifs, e_setS, e_aug, e_augS, e_tru, e_bl, e_and, e_or, e_not, e_andV, e_orV, e_notV, e_if, e_chain, e_nop, e_part, e_sl, e_iSeq, e_iR1, e_iR2, rngOk_of, rngOk2_of, e_for, e_lc, e_yes, e_mt, e_mt2, e_join, e_put, e_fits, Tg.put, TgL.puts, q]
        · cases hq : decide (32 ≤ c) <;> simp [mkL_f, mkL_t, wipeP, mulOk, lw_l, lw_c, lv_l, lv_c, lv_x, sv_l, sv_c, sv_x, sv_t, lw_i, lw_s, lw_t, lv_s, lv_t, lv_i, lv_n, add_ii, add_ss, add_tt, add_ll, add_lc, add_cl, add_cc, sub_ii, plus_ii, mul_ii, mul_li, fdv_ii, mod_ii, pow_ii, neg_i, sh_i, sh_s, sh_t, sh_l, sh_n, sh_b, sh_c, eq_nn, ne_nn, eq_ni, ne_ni, eq_in, ne_in, eq_nb, ne_nb, eq_bn, ne_bn, eq_ns, ne_ns, eq_sn, ne_sn, eq_ii, ne_ii, eq_bb, ne_bb, eq_ss, ne_ss, eq_is, ne_is, eq_si, ne_si, eq_bs, ne_bs, eq_sb, ne_sb, isn_n, non_n, isn_i, non_i, isn_b, non_b, isn_s, non_s, isn_t, non_t, isn_l, non_l, isn_c, non_c, isn_x, non_x, tru_n, tru_b, tru_i, tru_t, tru_l, notv_b, ix_t, ix_s, ix_l, ix_x, ix_c, ixl_c, sl_t, sl_s, sl_l, sl_c, rev_l, rev_c, len_t, len_l, len_x, len_s, len_c, list_t, list_l, list_x, list_c, tuple_t, tuple_l, tuple_c, int_i, int_b, abs_i, ord_s, isi_n, isi_b, isi_i, isi_s, isi_t, isi_l, isi_c, kindc, max_ii, min_ii, app_c, ext_c, set_c, sidx_ss, cm_ii, cm_ile, cm_igt, cm_ige, isl_l, isl_c, isl_s, iss_s, iss_l, b_ok, b_st, b_ex, o_ok, o_st, o_ex, c_ok, c_st, c_ex, fin_rt, fin_nx, fin_st, nx_nx, nx_rt, nx_bk, nx_ct, nx_ex, nx_st, e_seq, e_var, e_c, e_op, e_un, e_nil, e_cons, e_call, e_tup, e_lst, e_otup, e_olst, e_gd, e_asg, e_drop, e_ret, e_retN, e_next, e_brk, e_cont, e_ifs, e_setS, e_aug, e_augS, e_tru, e_bl, e_and, e_or, e_not, e_andV, e_orV, e_notV, e_if, e_chain, e_nop, e_part, e_sl, e_iSeq, e_iR1, e_iR2, rngOk_of, rngOk2_of, e_for, e_lc, e_yes, e_mt, e_mt2, e_join, e_put, e_fits, Tg.put, TgL.puts, q, hq]
      have e4 : (fBl (fChain (oCm .lt) (oCm .lt) (fC (.int 37)) (fVar 0) (fC (.int 127)))) [some (.int c)] m = .ok false m := by
        rcases k2 with q | q
        · simp [mkL_f, mkL_t, wipeP, mulOk, lw_l, lw_c, lv_l, lv_c, lv_x, sv_l, sv_c, sv_x, sv_t, lw_i, lw_s, lw_t, lv_s, lv_t, lv_i, lv_n, add_ii, add_ss, add_tt, add_ll, add_lc, add_cl, add_cc, sub_ii, plus_ii, mul_ii, mul_li, fdv_ii, mod_ii, pow_ii, neg_i, sh_i, sh_s, sh_t, sh_l, sh_n, sh_b, sh_c, eq_nn, ne_nn, eq_ni, ne_ni, eq_in, ne_in, eq_nb, ne_nb, eq_bn, ne_bn, eq_ns, ne_ns, eq_sn, ne_sn, eq_ii, ne_ii, eq_bb, ne_bb, eq_ss, ne_ss, eq_is, ne_is, eq_si, ne_si, eq_bs, ne_bs, eq_sb, ne_sb, isn_n, non_n, isn_i, non_i, isn_b, non_b, isn_s, non_s, isn_t, non_t, isn_l, non_l, isn_c, non_c, isn_x, non_x, tru_n, tru_b, tru_i, tru_t, tru_l, notv_b, ix_t, ix_s, ix_l, ix_x, ix_c, ixl_c, sl_t, sl_s, sl_l, sl_c, rev_l, rev_c, len_t, len_l, len_x, len_s, len_c, list_t, list_l, list_x, list_c, tuple_t, tuple_l, tuple_c, int_i, int_b, abs_i, ord_s, isi_n, isi_b, isi_i, isi_s, isi_t, isi_l, isi_c, kindc, max_ii, min_ii, app_c, ext_c, set_c, sidx_ss, cm_ii, cm_ile, cm_igt, cm_ige, isl_l, isl_c, isl_s, iss_s, iss_l, b_ok, b_st, b_ex, o_ok, o_st, o_ex, c_ok, c_st, c_ex, fin_rt, fin_nx, fin_st, nx_nx, nx_rt, nx_bk, nx_ct, nx_ex, nx_st, e_seq, e_var, e_c, e_op, e_un, e_nil, e_cons, e_call, e_tup, e_lst, e_otup, e_olst, e_gd, e_asg, e_drop, e_ret, e_retN, e_next, e_brk, e_cont, e_ifs, e_setS, e_aug, e_augS, e_tru, e_bl, e_and, e_or, e_not, e_andV, e_orV, e_notV, e_if, e_chain, e_nop, e_part, e_sl, e_iSeq, e_iR1, e_iR2, rngOk_of, rngOk2_of, e_for, e_lc, e_yes, e_mt, e_mt2, e_join, e_put, e_fits, Tg.put, TgL.puts, q]
        · cases hq : decide (37 < c) <;> simp [mkL_f, mkL_t, wipeP, mulOk, lw_l, lw_c, lv_l, lv_c, lv_x, sv_l, sv_c, sv_x, sv_t, lw_i, lw_s, lw_t, lv_s, lv_t, lv_i, lv_n, add_ii, add_ss, add_tt, add_ll, add_lc, add_cl, add_cc, sub_ii, plus_ii, mul_ii, mul_li, fdv_ii, mod_ii, pow_ii, neg_i, sh_i, sh_s, sh_t, sh_l, sh_n, sh_b, sh_c, eq_nn, ne_nn, eq_ni, ne_ni, eq_in, ne_in, eq_nb, ne_nb, eq_bn, ne_bn, eq_ns, ne_ns, eq_sn, ne_sn, eq_ii, ne_ii, eq_bb, ne_bb, eq_ss, ne_ss, eq_is, ne_is, eq_si, ne_si, eq_bs, ne_bs, eq_sb, ne_sb, isn_n, non_n, isn_i, non_i, isn_b, non_b, isn_s, non_s, isn_t, non_t, isn_l, non_l, isn_c, non_c, isn_x, non_x, tru_n, tru_b, tru_i, tru_t, tru_l, notv_b, ix_t, ix_s, ix_l, ix_x, ix_c, ixl_c, sl_t, sl_s, sl_l, sl_c, rev_l, rev_c, len_t, len_l, len_x, len_s, len_c, list_t, list_l, list_x, list_c, tuple_t, tuple_l, tuple_c, int_i, int_b, abs_i, ord_s, isi_n, isi_b, isi_i, isi_s, isi_t, isi_l, isi_c, kindc, max_ii, min_ii, app_c, ext_c, set_c, sidx_ss, cm_ii, cm_ile, cm_igt, cm_ige, isl_l, isl_c, isl_s, iss_s, iss_l, b_ok, b_st, b_ex, o_ok, o_st, o_ex, c_ok, c_st, c_ex, fin_rt, fin_nx, fin_st, nx_nx, nx_rt, nx_bk, nx_ct, nx_ex, nx_st, e_seq, e_var, e_c, e_op, e_un, e_nil, e_cons, e_call, e_tup, e_lst, e_otup, e_olst, e_gd, e_asg, e_drop, e_ret, e_retN, e_next, e_brk, e_cont, e_ifs, e_setS, e_aug, e_augS, e_tru, e_bl, e_and, e_or, e_not, e_andV, e_orV, e_notV, e_if, e_chain, e_nop, e_part, e_sl, e_iSeq, e_iR1, e_iR2, rngOk_of, rngOk2_of, e_for, e_lc, e_yes, e_mt, e_mt2, e_join, e_put, e_fits, Tg.put, TgL.puts, q, hq]
      show (finish true m (fSeq _ _ [some (.int c)] m)).calm = _
      rw [e_seq, e_ifF e3, e_next, nx_nx, e_seq, e_ifF e4]
      simp [mkL_f, mkL_t, wipeP, mulOk, lw_l, lw_c, lv_l, lv_c, lv_x, sv_l, sv_c, sv_x, sv_t, lw_i, lw_s, lw_t, lv_s, lv_t, lv_i, lv_n, add_ii, add_ss, add_tt, add_ll, add_lc, add_cl, add_cc, sub_ii, plus_ii, mul_ii, mul_li, fdv_ii, mod_ii, pow_ii, neg_i, sh_i, sh_s, sh_t, sh_l, sh_n, sh_b, sh_c, eq_nn, ne_nn, eq_ni, ne_ni, eq_in, ne_in, eq_nb, ne_nb, eq_bn, ne_bn, eq_ns, ne_ns, eq_sn, ne_sn, eq_ii, ne_ii, eq_bb, ne_bb, eq_ss, ne_ss, eq_is, ne_is, eq_si, ne_si, eq_bs, ne_bs, eq_sb, ne_sb, isn_n, non_n, isn_i, non_i, isn_b, non_b, isn_s, non_s, isn_t, non_t, isn_l, non_l, isn_c, non_c, isn_x, non_x, tru_n, tru_b, tru_i, tru_t, tru_l, notv_b, ix_t, ix_s, ix_l, ix_x, ix_c, ixl_c, sl_t, sl_s, sl_l, sl_c, rev_l, rev_c, len_t, len_l, len_x, len_s, len_c, list_t, list_l, list_x, list_c, tuple_t, tuple_l, tuple_c, int_i, int_b, abs_i, ord_s, isi_n, isi_b, isi_i, isi_s, isi_t, isi_l, isi_c, kindc, max_ii, min_ii, app_c, ext_c, set_c, sidx_ss, cm_ii, cm_ile, cm_igt, cm_ige, isl_l, isl_c, isl_s, iss_s, iss_l, b_ok, b_st, b_ex, o_ok, o_st, o_ex, c_ok, c_st, c_ex, fin_rt, fin_nx, fin_st, nx_nx, nx_rt, nx_bk, nx_ct, nx_ex, nx_st, e_seq, e_var, e_c, e_op, e_un, e_nil, e_cons, e_call, e_tup, e_lst, e_otup, e_olst, e_gd, e_asg, e_drop, e_ret, e_retN, e_next, e_brk, e_cont, e_ifs, e_setS, e_aug, e_augS, e_tru, e_bl, e_and, e_or, e_not, e_andV, e_orV, e_notV, e_if, e_chain, e_nop, e_part, e_sl, e_iSeq, e_iR1, e_iR2, rngOk_of, rngOk2_of, e_for, e_lc, e_yes, e_mt, e_mt2, e_join, e_put, e_fits, Tg.put, TgL.puts, cut_tree0]
/-! ### the integer, the text behind a place -/
def foldB (l : List Int) : Int := l.foldl (fun a b => 256 * a + b) 0
def inB (n : Int) : Bool := decide (-1000000000 ≤ n ∧ n ≤ 1000000000)
def intAt (l : List Int) : Option Int := if l.length < 5 then none else if inB (foldB (l.take 5) - 549755813888) = true then some (foldB (l.take 5) - 549755813888) else none
def optP (f : α → P) : Option α → P
  | some x => f x
  | none => .non
theorem optP_s {α : Type} {f : α → P} {x : α} : optP f (some x) = f x := rfl
theorem optP_n {α : Type} {f : α → P} : optP f none = .non := rfl
theorem cut_map {α β : Type} (f : α → β) (l : List α) (lo hi : Option Int) : cutL (l.map f) lo hi = (cutL l lo hi).map f := by
  unfold cutL
  rw [List.length_map, List.map_take, List.map_drop]
theorem cut_nat {α : Type} (l : List α) (a b : Nat) : cutL l (some (a : Int)) (some ((a : Int) + b)) = (l.drop a).take b := by
  unfold cutL HT.sIx
  simp only [show ¬ ((a : Int) < 0) by omega, if_false, show ¬ ((a : Int) + b < 0) by omega]
  have h1 : ((a : Int)).toNat = a := by omega
  have h2 : ((a : Int) + b).toNat = a + b := by omega
  rw [h1, h2]
  by_cases h : a ≤ l.length
  · rw [Nat.min_eq_left h]
    by_cases h3 : a + b ≤ l.length
    · rw [Nat.min_eq_left h3, Nat.add_sub_cancel_left]
    · rw [Nat.min_eq_right (by omega)]
      rw [List.take_of_length_le (by rw [List.length_drop]; omega), List.take_of_length_le (by rw [List.length_drop]; omega)]
  · have e1 : min a l.length = l.length := Nat.min_eq_right (by omega)
    rw [e1, List.drop_length, List.take_nil, List.drop_of_length_le (by omega), List.take_nil]
theorem integer_at_k (k : List Int) (a : Nat) (m : M) : f_integer_at [ip k, .int a] m = .ok (optP .int (intAt (k.drop a))) m := by
  unfold f_integer_at fnC fnF fb_integer_at
  have hc := cut_nat (k.map P.int) a 5
  have h5 : (((a : Nat) : Int) + ((5 : Nat) : Int)) = (a : Int) + 5 := rfl
  rw [h5, ← List.map_drop, ← List.map_take] at hc
  unfold intAt
  by_cases h : (k.drop a).length < 5
  · have e1 : ((((k.drop a).take 5).length : Nat) : Int) < 5 := by rw [List.length_take]; omega
    rw [if_pos h]
    simp only [List.length_take, List.length_drop] at e1
    simp [mkL_f, mkL_t, wipeP, mulOk, lw_l, lw_c, lv_l, lv_c, lv_x, sv_l, sv_c, sv_x, sv_t, lw_i, lw_s, lw_t, lv_s, lv_t, lv_i, lv_n, add_ii, add_ss, add_tt, add_ll, add_lc, add_cl, add_cc, sub_ii, plus_ii, mul_ii, mul_li, fdv_ii, mod_ii, pow_ii, neg_i, sh_i, sh_s, sh_t, sh_l, sh_n, sh_b, sh_c, eq_nn, ne_nn, eq_ni, ne_ni, eq_in, ne_in, eq_nb, ne_nb, eq_bn, ne_bn, eq_ns, ne_ns, eq_sn, ne_sn, eq_ii, ne_ii, eq_bb, ne_bb, eq_ss, ne_ss, eq_is, ne_is, eq_si, ne_si, eq_bs, ne_bs, eq_sb, ne_sb, isn_n, non_n, isn_i, non_i, isn_b, non_b, isn_s, non_s, isn_t, non_t, isn_l, non_l, isn_c, non_c, isn_x, non_x, tru_n, tru_b, tru_i, tru_t, tru_l, notv_b, ix_t, ix_s, ix_l, ix_x, ix_c, ixl_c, sl_t, sl_s, sl_l, sl_c, rev_l, rev_c, len_t, len_l, len_x, len_s, len_c, list_t, list_l, list_x, list_c, tuple_t, tuple_l, tuple_c, int_i, int_b, abs_i, ord_s, isi_n, isi_b, isi_i, isi_s, isi_t, isi_l, isi_c, kindc, max_ii, min_ii, app_c, ext_c, set_c, sidx_ss, cm_ii, cm_ile, cm_igt, cm_ige, isl_l, isl_c, isl_s, iss_s, iss_l, b_ok, b_st, b_ex, o_ok, o_st, o_ex, c_ok, c_st, c_ex, fin_rt, fin_nx, fin_st, nx_nx, nx_rt, nx_bk, nx_ct, nx_ex, nx_st, e_seq, e_var, e_c, e_op, e_un, e_nil, e_cons, e_call, e_tup, e_lst, e_otup, e_olst, e_gd, e_asg, e_drop, e_ret, e_retN, e_next, e_brk, e_cont, e_ifs, e_setS, e_aug, e_augS, e_tru, e_bl, e_and, e_or, e_not, e_andV, e_orV, e_notV, e_if, e_chain, e_nop, e_part, e_sl, e_iSeq, e_iR1, e_iR2, rngOk_of, rngOk2_of, e_for, e_lc, e_yes, e_mt, e_mt2, e_join, e_put, e_fits, Tg.put, TgL.puts, startP, ip, hc, e1, optP_s, optP_n, cut_tree0]
  · rw [if_neg h]
    generalize hs : (k.drop a).take 5 = s at *
    have hl : s.length = 5 := by rw [← hs, List.length_take]; omega
    match s, hl with
    | [x0, x1, x2, x3, x4], _ =>
      simp [mkL_f, mkL_t, wipeP, mulOk, lw_l, lw_c, lv_l, lv_c, lv_x, sv_l, sv_c, sv_x, sv_t, lw_i, lw_s, lw_t, lv_s, lv_t, lv_i, lv_n, add_ii, add_ss, add_tt, add_ll, add_lc, add_cl, add_cc, sub_ii, plus_ii, mul_ii, mul_li, fdv_ii, mod_ii, pow_ii, neg_i, sh_i, sh_s, sh_t, sh_l, sh_n, sh_b, sh_c, eq_nn, ne_nn, eq_ni, ne_ni, eq_in, ne_in, eq_nb, ne_nb, eq_bn, ne_bn, eq_ns, ne_ns, eq_sn, ne_sn, eq_ii, ne_ii, eq_bb, ne_bb, eq_ss, ne_ss, eq_is, ne_is, eq_si, ne_si, eq_bs, ne_bs, eq_sb, ne_sb, isn_n, non_n, isn_i, non_i, isn_b, non_b, isn_s, non_s, isn_t, non_t, isn_l, non_l, isn_c, non_c, isn_x, non_x, tru_n, tru_b, tru_i, tru_t, tru_l, notv_b, ix_t, ix_s, ix_l, ix_x, ix_c, ixl_c, sl_t, sl_s, sl_l, sl_c, rev_l, rev_c, len_t, len_l, len_x, len_s, len_c, list_t, list_l, list_x, list_c, tuple_t, tuple_l, tuple_c, int_i, int_b, abs_i, ord_s, isi_n, isi_b, isi_i, isi_s, isi_t, isi_l, isi_c, kindc, max_ii, min_ii, app_c, ext_c, set_c, sidx_ss, cm_ii, cm_ile, cm_igt, cm_ige, isl_l, isl_c, isl_s, iss_s, iss_l, b_ok, b_st, b_ex, o_ok, o_st, o_ex, c_ok, c_st, c_ex, fin_rt, fin_nx, fin_st, nx_nx, nx_rt, nx_bk, nx_ct, nx_ex, nx_st, e_seq, e_var, e_c, e_op, e_un, e_nil, e_cons, e_call, e_tup, e_lst, e_otup, e_olst, e_gd, e_asg, e_drop, e_ret, e_retN, e_next, e_brk, e_cont, e_ifs, e_setS, e_aug, e_augS, e_tru, e_bl, e_and, e_or, e_not, e_andV, e_orV, e_notV, e_if, e_chain, e_nop, e_part, e_sl, e_iSeq, e_iR1, e_iR2, rngOk_of, rngOk2_of, e_for, e_lc, e_yes, e_mt, e_mt2, e_join, e_put, e_fits, Tg.put, TgL.puts, startP, ip, hc, forG_cons, forG_nil, foldB, inB]
      generalize hz : 256 * (256 * (256 * (256 * x0 + x1) + x2) + x3) + x4 - 549755813888 = z
      cases h1 : decide (-1000000000 ≤ z) <;> cases h2 : decide (z ≤ 1000000000) <;> simp at h1 h2 <;> simp [mkL_f, mkL_t, wipeP, mulOk, lw_l, lw_c, lv_l, lv_c, lv_x, sv_l, sv_c, sv_x, sv_t, lw_i, lw_s, lw_t, lv_s, lv_t, lv_i, lv_n, add_ii, add_ss, add_tt, add_ll, add_lc, add_cl, add_cc, sub_ii, plus_ii, mul_ii, mul_li, fdv_ii, mod_ii, pow_ii, neg_i, sh_i, sh_s, sh_t, sh_l, sh_n, sh_b, sh_c, eq_nn, ne_nn, eq_ni, ne_ni, eq_in, ne_in, eq_nb, ne_nb, eq_bn, ne_bn, eq_ns, ne_ns, eq_sn, ne_sn, eq_ii, ne_ii, eq_bb, ne_bb, eq_ss, ne_ss, eq_is, ne_is, eq_si, ne_si, eq_bs, ne_bs, eq_sb, ne_sb, isn_n, non_n, isn_i, non_i, isn_b, non_b, isn_s, non_s, isn_t, non_t, isn_l, non_l, isn_c, non_c, isn_x, non_x, tru_n, tru_b, tru_i, tru_t, tru_l, notv_b, ix_t, ix_s, ix_l, ix_x, ix_c, ixl_c, sl_t, sl_s, sl_l, sl_c, rev_l, rev_c, len_t, len_l, len_x, len_s, len_c, list_t, list_l, list_x, list_c, tuple_t, tuple_l, tuple_c, int_i, int_b, abs_i, ord_s, isi_n, isi_b, isi_i, isi_s, isi_t, isi_l, isi_c, kindc, max_ii, min_ii, app_c, ext_c, set_c, sidx_ss, cm_ii, cm_ile, cm_igt, cm_ige, isl_l, isl_c, isl_s, iss_s, iss_l, b_ok, b_st, b_ex, o_ok, o_st, o_ex, c_ok, c_st, c_ex, fin_rt, fin_nx, fin_st, nx_nx, nx_rt, nx_bk, nx_ct, nx_ex, nx_st, e_seq, e_var, e_c, e_op, e_un, e_nil, e_cons, e_call, e_tup, e_lst, e_otup, e_olst, e_gd, e_asg, e_drop, e_ret, e_retN, e_next, e_brk, e_cont, e_ifs, e_setS, e_aug, e_augS, e_tru, e_bl, e_and, e_or, e_not, e_andV, e_orV, e_notV, e_if, e_chain, e_nop, e_part, e_sl, e_iSeq, e_iR1, e_iR2, rngOk_of, rngOk2_of, e_for, e_lc, e_yes, e_mt, e_mt2, e_join, e_put, e_fits, Tg.put, TgL.puts, h1, h2, optP_s, optP_n, cut_tree0, hz, Int.not_le.mpr, Int.not_le, Int.not_lt]
/-- the text whose codes stand at the front -/
def txtAt : Nat → List Nat → List Int → Option (List Nat)
  | 0, _, _ => none
  | _ + 1, _, [] => none
  | n + 1, acc, c :: r => if c = 0 then some acc else if 32 ≤ c ∧ c ≤ 126 ∧ c ≠ 37 then txtAt n (acc ++ [c.toNat]) r else none
theorem strL_app (x : List Nat) (c : Nat) : strL x ++ (⟨#[c]⟩ : Str) = strL (x ++ [c]) := by
  show Str.append _ _ = _
  unfold Str.append strL
  simp
theorem text_at_k (k : List Int) (a : Nat) (m : M) : f_text_at [ip k, .int a] m = .ok (optP (fun x => .str (strL x)) (txtAt 7 [] (k.drop a))) m := by
  have loop : ∀ (n : Nat) (l : List Int) (acc : List Nat) (o1 o2 : Option P), acc.length + n ≤ 100 →
      (forG (.name 3) (fSeq (fIfS (fBl (fOp oEq (fVar 3) (fC (.int 0)))) (fRet (fVar 2)) fNext)
  (fSeq (fAsg (.name 4) (fCall (gd 1 f_character_of) (fCons (fVar 3) fNil)))
  (fSeq (fIfS (fBl (fOp oIsN (fVar 4) (fC .non))) (fRet (fC .non)) fNext)
  (fAsg (.name 2) (fOp (oAdd false) (fVar 2) (fVar 4)))))) [] ((l.take n).map .int) [some (ip k), some (.int a), some (.str (strL acc)), o1, o2] m).next (fRet (fC .non)) = .rt (optP (fun x => .str (strL x)) (txtAt n acc l)) m := by
    intro n
    induction n with
    | zero => intro l acc o1 o2 _; simp [forG_nil, mkL_f, mkL_t, wipeP, mulOk, lw_l, lw_c, lv_l, lv_c, lv_x, sv_l, sv_c, sv_x, sv_t, lw_i, lw_s, lw_t, lv_s, lv_t, lv_i, lv_n, add_ii, add_ss, add_tt, add_ll, add_lc, add_cl, add_cc, sub_ii, plus_ii, mul_ii, mul_li, fdv_ii, mod_ii, pow_ii, neg_i, sh_i, sh_s, sh_t, sh_l, sh_n, sh_b, sh_c, eq_nn, ne_nn, eq_ni, ne_ni, eq_in, ne_in, eq_nb, ne_nb, eq_bn, ne_bn, eq_ns, ne_ns, eq_sn, ne_sn, eq_ii, ne_ii, eq_bb, ne_bb, eq_ss, ne_ss, eq_is, ne_is, eq_si, ne_si, eq_bs, ne_bs, eq_sb, ne_sb, isn_n, non_n, isn_i, non_i, isn_b, non_b, isn_s, non_s, isn_t, non_t, isn_l, non_l, isn_c, non_c, isn_x, non_x, tru_n, tru_b, tru_i, tru_t, tru_l, notv_b, ix_t, ix_s, ix_l, ix_x, ix_c, ixl_c, sl_t, sl_s, sl_l, sl_c, rev_l, rev_c, len_t, len_l, len_x, len_s, len_c, list_t, list_l, list_x, list_c, tuple_t, tuple_l, tuple_c, int_i, int_b, abs_i, ord_s, isi_n, isi_b, isi_i, isi_s, isi_t, isi_l, isi_c, kindc, max_ii, min_ii, app_c, ext_c, set_c, sidx_ss, cm_ii, cm_ile, cm_igt, cm_ige, isl_l, isl_c, isl_s, iss_s, iss_l, b_ok, b_st, b_ex, o_ok, o_st, o_ex, c_ok, c_st, c_ex, fin_rt, fin_nx, fin_st, nx_nx, nx_rt, nx_bk, nx_ct, nx_ex, nx_st, e_seq, e_var, e_c, e_op, e_un, e_nil, e_cons, e_call, e_tup, e_lst, e_otup, e_olst, e_gd, e_asg, e_drop, e_ret, e_retN, e_next, e_brk, e_cont, e_ifs, e_setS, e_aug, e_augS, e_tru, e_bl, e_and, e_or, e_not, e_andV, e_orV, e_notV, e_if, e_chain, e_nop, e_part, e_sl, e_iSeq, e_iR1, e_iR2, rngOk_of, rngOk2_of, e_for, e_lc, e_yes, e_mt, e_mt2, e_join, e_put, e_fits, Tg.put, TgL.puts, txtAt, optP_s, optP_n]
    | succ n ih =>
      intro l acc o1 o2 hl
      cases l with
      | nil => simp [forG_nil, mkL_f, mkL_t, wipeP, mulOk, lw_l, lw_c, lv_l, lv_c, lv_x, sv_l, sv_c, sv_x, sv_t, lw_i, lw_s, lw_t, lv_s, lv_t, lv_i, lv_n, add_ii, add_ss, add_tt, add_ll, add_lc, add_cl, add_cc, sub_ii, plus_ii, mul_ii, mul_li, fdv_ii, mod_ii, pow_ii, neg_i, sh_i, sh_s, sh_t, sh_l, sh_n, sh_b, sh_c, eq_nn, ne_nn, eq_ni, ne_ni, eq_in, ne_in, eq_nb, ne_nb, eq_bn, ne_bn, eq_ns, ne_ns, eq_sn, ne_sn, eq_ii, ne_ii, eq_bb, ne_bb, eq_ss, ne_ss, eq_is, ne_is, eq_si, ne_si, eq_bs, ne_bs, eq_sb, ne_sb, isn_n, non_n, isn_i, non_i, isn_b, non_b, isn_s, non_s, isn_t, non_t, isn_l, non_l, isn_c, non_c, isn_x, non_x, tru_n, tru_b, tru_i, tru_t, tru_l, notv_b, ix_t, ix_s, ix_l, ix_x, ix_c, ixl_c, sl_t, sl_s, sl_l, sl_c, rev_l, rev_c, len_t, len_l, len_x, len_s, len_c, list_t, list_l, list_x, list_c, tuple_t, tuple_l, tuple_c, int_i, int_b, abs_i, ord_s, isi_n, isi_b, isi_i, isi_s, isi_t, isi_l, isi_c, kindc, max_ii, min_ii, app_c, ext_c, set_c, sidx_ss, cm_ii, cm_ile, cm_igt, cm_ige, isl_l, isl_c, isl_s, iss_s, iss_l, b_ok, b_st, b_ex, o_ok, o_st, o_ex, c_ok, c_st, c_ex, fin_rt, fin_nx, fin_st, nx_nx, nx_rt, nx_bk, nx_ct, nx_ex, nx_st, e_seq, e_var, e_c, e_op, e_un, e_nil, e_cons, e_call, e_tup, e_lst, e_otup, e_olst, e_gd, e_asg, e_drop, e_ret, e_retN, e_next, e_brk, e_cont, e_ifs, e_setS, e_aug, e_augS, e_tru, e_bl, e_and, e_or, e_not, e_andV, e_orV, e_notV, e_if, e_chain, e_nop, e_part, e_sl, e_iSeq, e_iR1, e_iR2, rngOk_of, rngOk2_of, e_for, e_lc, e_yes, e_mt, e_mt2, e_join, e_put, e_fits, Tg.put, TgL.puts, txtAt, optP_s, optP_n]
      | cons c r =>
        rw [List.take_succ_cons, List.map_cons, forG_cons]
        by_cases h0 : c = 0
        · simp [mkL_f, mkL_t, wipeP, mulOk, lw_l, lw_c, lv_l, lv_c, lv_x, sv_l, sv_c, sv_x, sv_t, lw_i, lw_s, lw_t, lv_s, lv_t, lv_i, lv_n, add_ii, add_ss, add_tt, add_ll, add_lc, add_cl, add_cc, sub_ii, plus_ii, mul_ii, mul_li, fdv_ii, mod_ii, pow_ii, neg_i, sh_i, sh_s, sh_t, sh_l, sh_n, sh_b, sh_c, eq_nn, ne_nn, eq_ni, ne_ni, eq_in, ne_in, eq_nb, ne_nb, eq_bn, ne_bn, eq_ns, ne_ns, eq_sn, ne_sn, eq_ii, ne_ii, eq_bb, ne_bb, eq_ss, ne_ss, eq_is, ne_is, eq_si, ne_si, eq_bs, ne_bs, eq_sb, ne_sb, isn_n, non_n, isn_i, non_i, isn_b, non_b, isn_s, non_s, isn_t, non_t, isn_l, non_l, isn_c, non_c, isn_x, non_x, tru_n, tru_b, tru_i, tru_t, tru_l, notv_b, ix_t, ix_s, ix_l, ix_x, ix_c, ixl_c, sl_t, sl_s, sl_l, sl_c, rev_l, rev_c, len_t, len_l, len_x, len_s, len_c, list_t, list_l, list_x, list_c, tuple_t, tuple_l, tuple_c, int_i, int_b, abs_i, ord_s, isi_n, isi_b, isi_i, isi_s, isi_t, isi_l, isi_c, kindc, max_ii, min_ii, app_c, ext_c, set_c, sidx_ss, cm_ii, cm_ile, cm_igt, cm_ige, isl_l, isl_c, isl_s, iss_s, iss_l, b_ok, b_st, b_ex, o_ok, o_st, o_ex, c_ok, c_st, c_ex, fin_rt, fin_nx, fin_st, nx_nx, nx_rt, nx_bk, nx_ct, nx_ex, nx_st, e_seq, e_var, e_c, e_op, e_un, e_nil, e_cons, e_call, e_tup, e_lst, e_otup, e_olst, e_gd, e_asg, e_drop, e_ret, e_retN, e_next, e_brk, e_cont, e_ifs, e_setS, e_aug, e_augS, e_tru, e_bl, e_and, e_or, e_not, e_andV, e_orV, e_notV, e_if, e_chain, e_nop, e_part, e_sl, e_iSeq, e_iR1, e_iR2, rngOk_of, rngOk2_of, e_for, e_lc, e_yes, e_mt, e_mt2, e_join, e_put, e_fits, Tg.put, TgL.puts, txtAt, h0, optP_s, optP_n]
        · by_cases h1 : 32 ≤ c ∧ c ≤ 126 ∧ c ≠ 37
          · have h2 : (strL acc).length + (⟨#[c.toNat]⟩ : Str).length ≤ 100000 := by rw [strL_len]; simp [Str.length]; omega
            have := ih r (acc ++ [c.toNat]) (some (.int c)) (some (.str ⟨#[c.toNat]⟩)) (by simp; omega)
            simp [mkL_f, mkL_t, wipeP, mulOk, lw_l, lw_c, lv_l, lv_c, lv_x, sv_l, sv_c, sv_x, sv_t, lw_i, lw_s, lw_t, lv_s, lv_t, lv_i, lv_n, add_ii, add_ss, add_tt, add_ll, add_lc, add_cl, add_cc, sub_ii, plus_ii, mul_ii, mul_li, fdv_ii, mod_ii, pow_ii, neg_i, sh_i, sh_s, sh_t, sh_l, sh_n, sh_b, sh_c, eq_nn, ne_nn, eq_ni, ne_ni, eq_in, ne_in, eq_nb, ne_nb, eq_bn, ne_bn, eq_ns, ne_ns, eq_sn, ne_sn, eq_ii, ne_ii, eq_bb, ne_bb, eq_ss, ne_ss, eq_is, ne_is, eq_si, ne_si, eq_bs, ne_bs, eq_sb, ne_sb, isn_n, non_n, isn_i, non_i, isn_b, non_b, isn_s, non_s, isn_t, non_t, isn_l, non_l, isn_c, non_c, isn_x, non_x, tru_n, tru_b, tru_i, tru_t, tru_l, notv_b, ix_t, ix_s, ix_l, ix_x, ix_c, ixl_c, sl_t, sl_s, sl_l, sl_c, rev_l, rev_c, len_t, len_l, len_x, len_s, len_c, list_t, list_l, list_x, list_c, tuple_t, tuple_l, tuple_c, int_i, int_b, abs_i, ord_s, isi_n, isi_b, isi_i, isi_s, isi_t, isi_l, isi_c, kindc, max_ii, min_ii, app_c, ext_c, set_c, sidx_ss, cm_ii, cm_ile, cm_igt, cm_ige, isl_l, isl_c, isl_s, iss_s, iss_l, b_ok, b_st, b_ex, o_ok, o_st, o_ex, c_ok, c_st, c_ex, fin_rt, fin_nx, fin_st, nx_nx, nx_rt, nx_bk, nx_ct, nx_ex, nx_st, e_seq, e_var, e_c, e_op, e_un, e_nil, e_cons, e_call, e_tup, e_lst, e_otup, e_olst, e_gd, e_asg, e_drop, e_ret, e_retN, e_next, e_brk, e_cont, e_ifs, e_setS, e_aug, e_augS, e_tru, e_bl, e_and, e_or, e_not, e_andV, e_orV, e_notV, e_if, e_chain, e_nop, e_part, e_sl, e_iSeq, e_iR1, e_iR2, rngOk_of, rngOk2_of, e_for, e_lc, e_yes, e_mt, e_mt2, e_join, e_put, e_fits, Tg.put, TgL.puts, txtAt, h0, h1, character_k, h2, strL_app]
            simpa using this
          · simp [mkL_f, mkL_t, wipeP, mulOk, lw_l, lw_c, lv_l, lv_c, lv_x, sv_l, sv_c, sv_x, sv_t, lw_i, lw_s, lw_t, lv_s, lv_t, lv_i, lv_n, add_ii, add_ss, add_tt, add_ll, add_lc, add_cl, add_cc, sub_ii, plus_ii, mul_ii, mul_li, fdv_ii, mod_ii, pow_ii, neg_i, sh_i, sh_s, sh_t, sh_l, sh_n, sh_b, sh_c, eq_nn, ne_nn, eq_ni, ne_ni, eq_in, ne_in, eq_nb, ne_nb, eq_bn, ne_bn, eq_ns, ne_ns, eq_sn, ne_sn, eq_ii, ne_ii, eq_bb, ne_bb, eq_ss, ne_ss, eq_is, ne_is, eq_si, ne_si, eq_bs, ne_bs, eq_sb, ne_sb, isn_n, non_n, isn_i, non_i, isn_b, non_b, isn_s, non_s, isn_t, non_t, isn_l, non_l, isn_c, non_c, isn_x, non_x, tru_n, tru_b, tru_i, tru_t, tru_l, notv_b, ix_t, ix_s, ix_l, ix_x, ix_c, ixl_c, sl_t, sl_s, sl_l, sl_c, rev_l, rev_c, len_t, len_l, len_x, len_s, len_c, list_t, list_l, list_x, list_c, tuple_t, tuple_l, tuple_c, int_i, int_b, abs_i, ord_s, isi_n, isi_b, isi_i, isi_s, isi_t, isi_l, isi_c, kindc, max_ii, min_ii, app_c, ext_c, set_c, sidx_ss, cm_ii, cm_ile, cm_igt, cm_ige, isl_l, isl_c, isl_s, iss_s, iss_l, b_ok, b_st, b_ex, o_ok, o_st, o_ex, c_ok, c_st, c_ex, fin_rt, fin_nx, fin_st, nx_nx, nx_rt, nx_bk, nx_ct, nx_ex, nx_st, e_seq, e_var, e_c, e_op, e_un, e_nil, e_cons, e_call, e_tup, e_lst, e_otup, e_olst, e_gd, e_asg, e_drop, e_ret, e_retN, e_next, e_brk, e_cont, e_ifs, e_setS, e_aug, e_augS, e_tru, e_bl, e_and, e_or, e_not, e_andV, e_orV, e_notV, e_if, e_chain, e_nop, e_part, e_sl, e_iSeq, e_iR1, e_iR2, rngOk_of, rngOk2_of, e_for, e_lc, e_yes, e_mt, e_mt2, e_join, e_put, e_fits, Tg.put, TgL.puts, txtAt, h0, h1, character_k, optP_s, optP_n]
  have hc := cut_nat (k.map P.int) a 7
  have h7 : (((a : Nat) : Int) + ((7 : Nat) : Int)) = (a : Int) + 7 := rfl
  rw [h7, ← List.map_drop, ← List.map_take] at hc
  have hs : strL [] = ("" : Str) := by decide +kernel
  have := loop 7 (k.drop a) [] none none (by simp)
  rw [hs] at this
  unfold f_text_at fnC fnF fb_text_at
  have e1 : (a : Int) + 6 + 1 = (a : Int) + 7 := by omega
  simp only [ip] at this ⊢
  simp at this
  simp [mkL_f, mkL_t, wipeP, mulOk, lw_l, lw_c, lv_l, lv_c, lv_x, sv_l, sv_c, sv_x, sv_t, lw_i, lw_s, lw_t, lv_s, lv_t, lv_i, lv_n, add_ii, add_ss, add_tt, add_ll, add_lc, add_cl, add_cc, sub_ii, plus_ii, mul_ii, mul_li, fdv_ii, mod_ii, pow_ii, neg_i, sh_i, sh_s, sh_t, sh_l, sh_n, sh_b, sh_c, eq_nn, ne_nn, eq_ni, ne_ni, eq_in, ne_in, eq_nb, ne_nb, eq_bn, ne_bn, eq_ns, ne_ns, eq_sn, ne_sn, eq_ii, ne_ii, eq_bb, ne_bb, eq_ss, ne_ss, eq_is, ne_is, eq_si, ne_si, eq_bs, ne_bs, eq_sb, ne_sb, isn_n, non_n, isn_i, non_i, isn_b, non_b, isn_s, non_s, isn_t, non_t, isn_l, non_l, isn_c, non_c, isn_x, non_x, tru_n, tru_b, tru_i, tru_t, tru_l, notv_b, ix_t, ix_s, ix_l, ix_x, ix_c, ixl_c, sl_t, sl_s, sl_l, sl_c, rev_l, rev_c, len_t, len_l, len_x, len_s, len_c, list_t, list_l, list_x, list_c, tuple_t, tuple_l, tuple_c, int_i, int_b, abs_i, ord_s, isi_n, isi_b, isi_i, isi_s, isi_t, isi_l, isi_c, kindc, max_ii, min_ii, app_c, ext_c, set_c, sidx_ss, cm_ii, cm_ile, cm_igt, cm_ige, isl_l, isl_c, isl_s, iss_s, iss_l, b_ok, b_st, b_ex, o_ok, o_st, o_ex, c_ok, c_st, c_ex, fin_rt, fin_nx, fin_st, nx_nx, nx_rt, nx_bk, nx_ct, nx_ex, nx_st, e_seq, e_var, e_c, e_op, e_un, e_nil, e_cons, e_call, e_tup, e_lst, e_otup, e_olst, e_gd, e_asg, e_drop, e_ret, e_retN, e_next, e_brk, e_cont, e_ifs, e_setS, e_aug, e_augS, e_tru, e_bl, e_and, e_or, e_not, e_andV, e_orV, e_notV, e_if, e_chain, e_nop, e_part, e_sl, e_iSeq, e_iR1, e_iR2, rngOk_of, rngOk2_of, e_for, e_lc, e_yes, e_mt, e_mt2, e_join, e_put, e_fits, Tg.put, TgL.puts, startP, e1, hc, this]
  cases txtAt 7 [] (k.drop a) <;> simp [optP_s, optP_n, cut_tree0, mkL_f, mkL_t, wipeP, mulOk, lw_l, lw_c, lv_l, lv_c, lv_x, sv_l, sv_c, sv_x, sv_t, lw_i, lw_s, lw_t, lv_s, lv_t, lv_i, lv_n, add_ii, add_ss, add_tt, add_ll, add_lc, add_cl, add_cc, sub_ii, plus_ii, mul_ii, mul_li, fdv_ii, mod_ii, pow_ii, neg_i, sh_i, sh_s, sh_t, sh_l, sh_n, sh_b, sh_c, eq_nn, ne_nn, eq_ni, ne_ni, eq_in, ne_in, eq_nb, ne_nb, eq_bn, ne_bn, eq_ns, ne_ns, eq_sn, ne_sn, eq_ii, ne_ii, eq_bb, ne_bb, eq_ss, ne_ss, eq_is, ne_is, eq_si, ne_si, eq_bs, ne_bs, eq_sb, ne_sb, isn_n, non_n, isn_i, non_i, isn_b, non_b, isn_s, non_s, isn_t, non_t, isn_l, non_l, isn_c, non_c, isn_x, non_x, tru_n, tru_b, tru_i, tru_t, tru_l, notv_b, ix_t, ix_s, ix_l, ix_x, ix_c, ixl_c, sl_t, sl_s, sl_l, sl_c, rev_l, rev_c, len_t, len_l, len_x, len_s, len_c, list_t, list_l, list_x, list_c, tuple_t, tuple_l, tuple_c, int_i, int_b, abs_i, ord_s, isi_n, isi_b, isi_i, isi_s, isi_t, isi_l, isi_c, kindc, max_ii, min_ii, app_c, ext_c, set_c, sidx_ss, cm_ii, cm_ile, cm_igt, cm_ige, isl_l, isl_c, isl_s, iss_s, iss_l, b_ok, b_st, b_ex, o_ok, o_st, o_ex, c_ok, c_st, c_ex, fin_rt, fin_nx, fin_st, nx_nx, nx_rt, nx_bk, nx_ct, nx_ex, nx_st, e_seq, e_var, e_c, e_op, e_un, e_nil, e_cons, e_call, e_tup, e_lst, e_otup, e_olst, e_gd, e_asg, e_drop, e_ret, e_retN, e_next, e_brk, e_cont, e_ifs, e_setS, e_aug, e_augS, e_tru, e_bl, e_and, e_or, e_not, e_andV, e_orV, e_notV, e_if, e_chain, e_nop, e_part, e_sl, e_iSeq, e_iR1, e_iR2, rngOk_of, rngOk2_of, e_for, e_lc, e_yes, e_mt, e_mt2, e_join, e_put, e_fits, Tg.put, TgL.puts]
/-! ### a whole key -/
def dec : Nat → List Int → List Kv → Option (List Kv)
  | 0, _, _ => none
  | _ + 1, [], acc => some acc
  | n + 1, c :: r, acc => if c = 1 then match intAt r with
      | some i => dec n (r.drop 5) (acc ++ [.n i])
      | none => none
    else if c = 2 then match txtAt 7 [] r with
      | some x => dec n (r.drop (x.length + 1)) (acc ++ [.t x])
      | none => none
    else none
theorem txtAt_len : ∀ (n : Nat) (acc : List Nat) (l : List Int) (d : List Nat), txtAt n acc l = some d → d.length + 1 ≤ acc.length + n ∧ d.length + 1 ≤ acc.length + l.length
  | 0, _, _, _, h => by simp [txtAt] at h
  | n + 1, _, [], _, h => by simp [txtAt] at h
  | n + 1, acc, c :: r, d, h => by
    rw [txtAt] at h
    split at h
    · cases h; simp only [List.length_cons]; omega
    · split at h
      · have := txtAt_len n _ r d h
        simp only [List.length_append, List.length_cons, List.length_nil] at this ⊢
        omega
      · cases h
theorem intAt_len {l : List Int} {i : Int} (h : intAt l = some i) : 5 ≤ l.length := by
  unfold intAt at h
  split at h
  · cases h
  · omega
theorem drop_at {k r : List Int} {c : Int} {a : Nat} (h : k.drop a = c :: r) : k[a]? = some c ∧ k.drop (a + 1) = r ∧ a < k.length := by
  have hl : a < k.length := by
    rcases Nat.lt_or_ge a k.length with q | q
    · exact q
    · rw [List.drop_of_length_le q] at h; cases h
  rw [List.drop_eq_getElem_cons hl] at h
  injection h with h1 h2
  exact ⟨by rw [List.getElem?_eq_getElem hl, h1], h2, hl⟩
theorem decode_loop (k : List Int) (m : M) (hk : k.length ≤ 90000) : ∀ (f N a : Nat) (acc : List Kv) (o : Option P), f ≤ N → (k.drop a).length < f → acc.length + (k.drop a).length ≤ 90000 → ∃ xs, (whileG (fBl (fOp (oCm .lt) (fVar 2) (fCall oLen (fCons (fVar 0) fNil)))) (fSeq (fIfS (fBl (fOp oEq (fOp oIx (fVar 0) (fVar 2)) (fC (.int 1)))) (fAsg (.name 3) (fCall (gd 2 f_integer_at) (fCons (fVar 0) (fCons (fOp (oAdd false) (fVar 2) (fC (.int 1))) fNil)))) (fIfS (fBl (fOp oEq (fOp oIx (fVar 0) (fVar 2)) (fC (.int 2)))) (fAsg (.name 3) (fCall (gd 2 f_text_at) (fCons (fVar 0) (fCons (fOp (oAdd false) (fVar 2) (fC (.int 1))) fNil)))) (fRet (fC .non))))
  (fSeq (fIfS (fBl (fOp oIsN (fVar 3) (fC .non))) (fRet (fC .non)) fNext)
  (fSeq (fDrop (fMt isL oAppend (fVar 1) (fCons (fVar 3) fNil)))
  (fAug 2 oPlus (fCall oLen (fCons (fCall (gd 1 f_bytes_of) (fCons (fVar 3) fNil)) fNil)))))) N [some (ip k), some (.cell m.length), some (.int a), o] (m ++ [.lst (acc.map kp)])).next (fRet (fCall oTuple (fCons (fVar 1) fNil))) = .rt (optP (fun vs : List Kv => .tup (vs.map kp)) (dec f (k.drop a) acc)) (m ++ [.lst xs])
  | 0, _, _, _, _, _, h, _ => by omega
  | f + 1, 0, _, _, _, hN, _, _ => by omega
  | f + 1, N + 1, a, acc, o, hN, hf, hl => by
    rw [whileG]
    cases hr : k.drop a with
    | nil =>
      have ha : ¬ ((a : Int) < (k.length : Int)) := by
        have := congrArg List.length hr
        simp at this
        omega
      refine ⟨acc.map kp, ?_⟩
      simp [mkL_f, mkL_t, wipeP, mulOk, lw_l, lw_c, lv_l, lv_c, lv_x, sv_l, sv_c, sv_x, sv_t, lw_i, lw_s, lw_t, lv_s, lv_t, lv_i, lv_n, add_ii, add_ss, add_tt, add_ll, add_lc, add_cl, add_cc, sub_ii, plus_ii, mul_ii, mul_li, fdv_ii, mod_ii, pow_ii, neg_i, sh_i, sh_s, sh_t, sh_l, sh_n, sh_b, sh_c, eq_nn, ne_nn, eq_ni, ne_ni, eq_in, ne_in, eq_nb, ne_nb, eq_bn, ne_bn, eq_ns, ne_ns, eq_sn, ne_sn, eq_ii, ne_ii, eq_bb, ne_bb, eq_ss, ne_ss, eq_is, ne_is, eq_si, ne_si, eq_bs, ne_bs, eq_sb, ne_sb, isn_n, non_n, isn_i, non_i, isn_b, non_b, isn_s, non_s, isn_t, non_t, isn_l, non_l, isn_c, non_c, isn_x, non_x, tru_n, tru_b, tru_i, tru_t, tru_l, notv_b, ix_t, ix_s, ix_l, ix_x, ix_c, ixl_c, sl_t, sl_s, sl_l, sl_c, rev_l, rev_c, len_t, len_l, len_x, len_s, len_c, list_t, list_l, list_x, list_c, tuple_t, tuple_l, tuple_c, int_i, int_b, abs_i, ord_s, isi_n, isi_b, isi_i, isi_s, isi_t, isi_l, isi_c, kindc, max_ii, min_ii, app_c, ext_c, set_c, sidx_ss, cm_ii, cm_ile, cm_igt, cm_ige, isl_l, isl_c, isl_s, iss_s, iss_l, b_ok, b_st, b_ex, o_ok, o_st, o_ex, c_ok, c_st, c_ex, fin_rt, fin_nx, fin_st, nx_nx, nx_rt, nx_bk, nx_ct, nx_ex, nx_st, e_seq, e_var, e_c, e_op, e_un, e_nil, e_cons, e_call, e_tup, e_lst, e_otup, e_olst, e_gd, e_asg, e_drop, e_ret, e_retN, e_next, e_brk, e_cont, e_ifs, e_setS, e_aug, e_augS, e_tru, e_bl, e_and, e_or, e_not, e_andV, e_orV, e_notV, e_if, e_chain, e_nop, e_part, e_sl, e_iSeq, e_iR1, e_iR2, rngOk_of, rngOk2_of, e_for, e_lc, e_yes, e_mt, e_mt2, e_join, e_put, e_fits, Tg.put, TgL.puts, ip, ha, dec, optP_s, optP_n]
    | cons c r =>
      obtain ⟨h1, h2, h3⟩ := drop_at hr
      have ha : (a : Int) < (k.length : Int) := by omega
      have e1 : ((a : Int) + 1) = ((a + 1 : Nat) : Int) := by omega
      rw [hr] at hf hl
      simp only [List.length_cons] at hf hl
      rw [dec]
      have hip : ∀ n, oLen [ip k] n = .ok (.int (k.length : Int)) n := fun n => by simp only [ip, len_t, List.length_map]
      have hix : ∀ n, oIx (ip k) (.int a) n = .ok (.int c) n := fun n => by
        simp only [ip, ix_t, atI_nat', List.getElem?_map, h1, Option.map_some]
      have hia : ∀ n, f_integer_at [ip k, .int ((a : Int) + 1)] n = .ok (optP .int (intAt r)) n := fun n => by rw [e1, integer_at_k, h2]
      have hta : ∀ n, f_text_at [ip k, .int ((a : Int) + 1)] n = .ok (optP (fun x => .str (strL x)) (txtAt 7 [] r)) n := fun n => by rw [e1, text_at_k, h2]
      clear e1
      by_cases hc1 : c = 1
      · subst hc1
        rw [if_pos rfl]
        cases hi : intAt r with
        | none =>
          refine ⟨acc.map kp, ?_⟩
          simp [mkL_f, mkL_t, wipeP, mulOk, lw_l, lw_c, lv_l, lv_c, lv_x, sv_l, sv_c, sv_x, sv_t, lw_i, lw_s, lw_t, lv_s, lv_t, lv_i, lv_n, add_ii, add_ss, add_tt, add_ll, add_lc, add_cl, add_cc, sub_ii, plus_ii, mul_ii, mul_li, fdv_ii, mod_ii, pow_ii, neg_i, sh_i, sh_s, sh_t, sh_l, sh_n, sh_b, sh_c, eq_nn, ne_nn, eq_ni, ne_ni, eq_in, ne_in, eq_nb, ne_nb, eq_bn, ne_bn, eq_ns, ne_ns, eq_sn, ne_sn, eq_ii, ne_ii, eq_bb, ne_bb, eq_ss, ne_ss, eq_is, ne_is, eq_si, ne_si, eq_bs, ne_bs, eq_sb, ne_sb, isn_n, non_n, isn_i, non_i, isn_b, non_b, isn_s, non_s, isn_t, non_t, isn_l, non_l, isn_c, non_c, isn_x, non_x, tru_n, tru_b, tru_i, tru_t, tru_l, notv_b, ix_t, ix_s, ix_l, ix_x, ix_c, ixl_c, sl_t, sl_s, sl_l, sl_c, rev_l, rev_c, len_t, len_l, len_x, len_s, len_c, list_t, list_l, list_x, list_c, tuple_t, tuple_l, tuple_c, int_i, int_b, abs_i, ord_s, isi_n, isi_b, isi_i, isi_s, isi_t, isi_l, isi_c, kindc, max_ii, min_ii, app_c, ext_c, set_c, sidx_ss, cm_ii, cm_ile, cm_igt, cm_ige, isl_l, isl_c, isl_s, iss_s, iss_l, b_ok, b_st, b_ex, o_ok, o_st, o_ex, c_ok, c_st, c_ex, fin_rt, fin_nx, fin_st, nx_nx, nx_rt, nx_bk, nx_ct, nx_ex, nx_st, e_seq, e_var, e_c, e_op, e_un, e_nil, e_cons, e_call, e_tup, e_lst, e_otup, e_olst, e_gd, e_asg, e_drop, e_ret, e_retN, e_next, e_brk, e_cont, e_ifs, e_setS, e_aug, e_augS, e_tru, e_bl, e_and, e_or, e_not, e_andV, e_orV, e_notV, e_if, e_chain, e_nop, e_part, e_sl, e_iSeq, e_iR1, e_iR2, rngOk_of, rngOk2_of, e_for, e_lc, e_yes, e_mt, e_mt2, e_join, e_put, e_fits, Tg.put, TgL.puts, hip, hix, ha, hia, hi, optP_s, optP_n]
        | some i =>
          have h5 := intAt_len hi
          have hd : (k.drop (a + 6)) = r.drop 5 := by rw [← h2, List.drop_drop]
          have hlen : (r.drop 5).length = r.length - 5 := List.length_drop
          obtain ⟨xs, hx⟩ := decode_loop k m hk f N (a + 6) (acc ++ [.n i]) (some (.int i)) (by omega) (by rw [hd]; omega) (by rw [hd, List.length_append, List.length_singleton]; omega)
          refine ⟨xs, ?_⟩
          have e6 : ((a + 6 : Nat) : Int) = (a : Int) + 6 := by omega
          rw [hd, e6] at hx
          have hs : acc.length < 100000 := by omega
          have hb : (kb (.n i)).length = 6 := by simp [kb, dig5]
          simp [mkL_f, mkL_t, wipeP, mulOk, lw_l, lw_c, lv_l, lv_c, lv_x, sv_l, sv_c, sv_x, sv_t, lw_i, lw_s, lw_t, lv_s, lv_t, lv_i, lv_n, add_ii, add_ss, add_tt, add_ll, add_lc, add_cl, add_cc, sub_ii, plus_ii, mul_ii, mul_li, fdv_ii, mod_ii, pow_ii, neg_i, sh_i, sh_s, sh_t, sh_l, sh_n, sh_b, sh_c, eq_nn, ne_nn, eq_ni, ne_ni, eq_in, ne_in, eq_nb, ne_nb, eq_bn, ne_bn, eq_ns, ne_ns, eq_sn, ne_sn, eq_ii, ne_ii, eq_bb, ne_bb, eq_ss, ne_ss, eq_is, ne_is, eq_si, ne_si, eq_bs, ne_bs, eq_sb, ne_sb, isn_n, non_n, isn_i, non_i, isn_b, non_b, isn_s, non_s, isn_t, non_t, isn_l, non_l, isn_c, non_c, isn_x, non_x, tru_n, tru_b, tru_i, tru_t, tru_l, notv_b, ix_t, ix_s, ix_l, ix_x, ix_c, ixl_c, sl_t, sl_s, sl_l, sl_c, rev_l, rev_c, len_t, len_l, len_x, len_s, len_c, list_t, list_l, list_x, list_c, tuple_t, tuple_l, tuple_c, int_i, int_b, abs_i, ord_s, isi_n, isi_b, isi_i, isi_s, isi_t, isi_l, isi_c, kindc, max_ii, min_ii, app_c, ext_c, set_c, sidx_ss, cm_ii, cm_ile, cm_igt, cm_ige, isl_l, isl_c, isl_s, iss_s, iss_l, b_ok, b_st, b_ex, o_ok, o_st, o_ex, c_ok, c_st, c_ex, fin_rt, fin_nx, fin_st, nx_nx, nx_rt, nx_bk, nx_ct, nx_ex, nx_st, e_seq, e_var, e_c, e_op, e_un, e_nil, e_cons, e_call, e_tup, e_lst, e_otup, e_olst, e_gd, e_asg, e_drop, e_ret, e_retN, e_next, e_brk, e_cont, e_ifs, e_setS, e_aug, e_augS, e_tru, e_bl, e_and, e_or, e_not, e_andV, e_orV, e_notV, e_if, e_chain, e_nop, e_part, e_sl, e_iSeq, e_iR1, e_iR2, rngOk_of, rngOk2_of, e_for, e_lc, e_yes, e_mt, e_mt2, e_join, e_put, e_fits, Tg.put, TgL.puts, hip, hix, ha, hia, hi, optP_s, optP_n, hs, bytes_of_n, hb]
          simpa [kp] using hx
      · by_cases hc2 : c = 2
        · subst hc2
          rw [if_neg hc1, if_pos rfl]
          cases hi : txtAt 7 [] r with
          | none =>
            refine ⟨acc.map kp, ?_⟩
            simp [mkL_f, mkL_t, wipeP, mulOk, lw_l, lw_c, lv_l, lv_c, lv_x, sv_l, sv_c, sv_x, sv_t, lw_i, lw_s, lw_t, lv_s, lv_t, lv_i, lv_n, add_ii, add_ss, add_tt, add_ll, add_lc, add_cl, add_cc, sub_ii, plus_ii, mul_ii, mul_li, fdv_ii, mod_ii, pow_ii, neg_i, sh_i, sh_s, sh_t, sh_l, sh_n, sh_b, sh_c, eq_nn, ne_nn, eq_ni, ne_ni, eq_in, ne_in, eq_nb, ne_nb, eq_bn, ne_bn, eq_ns, ne_ns, eq_sn, ne_sn, eq_ii, ne_ii, eq_bb, ne_bb, eq_ss, ne_ss, eq_is, ne_is, eq_si, ne_si, eq_bs, ne_bs, eq_sb, ne_sb, isn_n, non_n, isn_i, non_i, isn_b, non_b, isn_s, non_s, isn_t, non_t, isn_l, non_l, isn_c, non_c, isn_x, non_x, tru_n, tru_b, tru_i, tru_t, tru_l, notv_b, ix_t, ix_s, ix_l, ix_x, ix_c, ixl_c, sl_t, sl_s, sl_l, sl_c, rev_l, rev_c, len_t, len_l, len_x, len_s, len_c, list_t, list_l, list_x, list_c, tuple_t, tuple_l, tuple_c, int_i, int_b, abs_i, ord_s, isi_n, isi_b, isi_i, isi_s, isi_t, isi_l, isi_c, kindc, max_ii, min_ii, app_c, ext_c, set_c, sidx_ss, cm_ii, cm_ile, cm_igt, cm_ige, isl_l, isl_c, isl_s, iss_s, iss_l, b_ok, b_st, b_ex, o_ok, o_st, o_ex, c_ok, c_st, c_ex, fin_rt, fin_nx, fin_st, nx_nx, nx_rt, nx_bk, nx_ct, nx_ex, nx_st, e_seq, e_var, e_c, e_op, e_un, e_nil, e_cons, e_call, e_tup, e_lst, e_otup, e_olst, e_gd, e_asg, e_drop, e_ret, e_retN, e_next, e_brk, e_cont, e_ifs, e_setS, e_aug, e_augS, e_tru, e_bl, e_and, e_or, e_not, e_andV, e_orV, e_notV, e_if, e_chain, e_nop, e_part, e_sl, e_iSeq, e_iR1, e_iR2, rngOk_of, rngOk2_of, e_for, e_lc, e_yes, e_mt, e_mt2, e_join, e_put, e_fits, Tg.put, TgL.puts, hip, hix, ha, hta, hi, optP_s, optP_n]
          | some x =>
            obtain ⟨h6, h7⟩ := txtAt_len 7 [] r x hi
            simp only [List.length_nil, Nat.zero_add] at h6 h7
            have hd : (k.drop (a + (x.length + 2))) = r.drop (x.length + 1) := by rw [← h2, List.drop_drop]; congr 1; omega
            have hlen : (r.drop (x.length + 1)).length = r.length - (x.length + 1) := List.length_drop
            obtain ⟨xs, hx⟩ := decode_loop k m hk f N (a + (x.length + 2)) (acc ++ [.t x]) (some (.str (strL x))) (by omega) (by rw [hd]; omega) (by rw [hd, List.length_append, List.length_singleton]; omega)
            refine ⟨xs, ?_⟩
            have e6 : ((a + (x.length + 2) : Nat) : Int) = (a : Int) + ((x.length : Int) + 2) := by omega
            rw [hd, e6] at hx
            have hs : acc.length < 100000 := by omega
            have hb : (kb (.t x)).length = x.length + 2 := by simp [kb]
            simp [mkL_f, mkL_t, wipeP, mulOk, lw_l, lw_c, lv_l, lv_c, lv_x, sv_l, sv_c, sv_x, sv_t, lw_i, lw_s, lw_t, lv_s, lv_t, lv_i, lv_n, add_ii, add_ss, add_tt, add_ll, add_lc, add_cl, add_cc, sub_ii, plus_ii, mul_ii, mul_li, fdv_ii, mod_ii, pow_ii, neg_i, sh_i, sh_s, sh_t, sh_l, sh_n, sh_b, sh_c, eq_nn, ne_nn, eq_ni, ne_ni, eq_in, ne_in, eq_nb, ne_nb, eq_bn, ne_bn, eq_ns, ne_ns, eq_sn, ne_sn, eq_ii, ne_ii, eq_bb, ne_bb, eq_ss, ne_ss, eq_is, ne_is, eq_si, ne_si, eq_bs, ne_bs, eq_sb, ne_sb, isn_n, non_n, isn_i, non_i, isn_b, non_b, isn_s, non_s, isn_t, non_t, isn_l, non_l, isn_c, non_c, isn_x, non_x, tru_n, tru_b, tru_i, tru_t, tru_l, notv_b, ix_t, ix_s, ix_l, ix_x, ix_c, ixl_c, sl_t, sl_s, sl_l, sl_c, rev_l, rev_c, len_t, len_l, len_x, len_s, len_c, list_t, list_l, list_x, list_c, tuple_t, tuple_l, tuple_c, int_i, int_b, abs_i, ord_s, isi_n, isi_b, isi_i, isi_s, isi_t, isi_l, isi_c, kindc, max_ii, min_ii, app_c, ext_c, set_c, sidx_ss, cm_ii, cm_ile, cm_igt, cm_ige, isl_l, isl_c, isl_s, iss_s, iss_l, b_ok, b_st, b_ex, o_ok, o_st, o_ex, c_ok, c_st, c_ex, fin_rt, fin_nx, fin_st, nx_nx, nx_rt, nx_bk, nx_ct, nx_ex, nx_st, e_seq, e_var, e_c, e_op, e_un, e_nil, e_cons, e_call, e_tup, e_lst, e_otup, e_olst, e_gd, e_asg, e_drop, e_ret, e_retN, e_next, e_brk, e_cont, e_ifs, e_setS, e_aug, e_augS, e_tru, e_bl, e_and, e_or, e_not, e_andV, e_orV, e_notV, e_if, e_chain, e_nop, e_part, e_sl, e_iSeq, e_iR1, e_iR2, rngOk_of, rngOk2_of, e_for, e_lc, e_yes, e_mt, e_mt2, e_join, e_put, e_fits, Tg.put, TgL.puts, hip, hix, ha, hta, hi, optP_s, optP_n, hs, bytes_of_t x _ (by omega), hb]
            simpa [kp] using hx
        · rw [if_neg hc1, if_neg hc2]
          refine ⟨acc.map kp, ?_⟩
          simp [mkL_f, mkL_t, wipeP, mulOk, lw_l, lw_c, lv_l, lv_c, lv_x, sv_l, sv_c, sv_x, sv_t, lw_i, lw_s, lw_t, lv_s, lv_t, lv_i, lv_n, add_ii, add_ss, add_tt, add_ll, add_lc, add_cl, add_cc, sub_ii, plus_ii, mul_ii, mul_li, fdv_ii, mod_ii, pow_ii, neg_i, sh_i, sh_s, sh_t, sh_l, sh_n, sh_b, sh_c, eq_nn, ne_nn, eq_ni, ne_ni, eq_in, ne_in, eq_nb, ne_nb, eq_bn, ne_bn, eq_ns, ne_ns, eq_sn, ne_sn, eq_ii, ne_ii, eq_bb, ne_bb, eq_ss, ne_ss, eq_is, ne_is, eq_si, ne_si, eq_bs, ne_bs, eq_sb, ne_sb, isn_n, non_n, isn_i, non_i, isn_b, non_b, isn_s, non_s, isn_t, non_t, isn_l, non_l, isn_c, non_c, isn_x, non_x, tru_n, tru_b, tru_i, tru_t, tru_l, notv_b, ix_t, ix_s, ix_l, ix_x, ix_c, ixl_c, sl_t, sl_s, sl_l, sl_c, rev_l, rev_c, len_t, len_l, len_x, len_s, len_c, list_t, list_l, list_x, list_c, tuple_t, tuple_l, tuple_c, int_i, int_b, abs_i, ord_s, isi_n, isi_b, isi_i, isi_s, isi_t, isi_l, isi_c, kindc, max_ii, min_ii, app_c, ext_c, set_c, sidx_ss, cm_ii, cm_ile, cm_igt, cm_ige, isl_l, isl_c, isl_s, iss_s, iss_l, b_ok, b_st, b_ex, o_ok, o_st, o_ex, c_ok, c_st, c_ex, fin_rt, fin_nx, fin_st, nx_nx, nx_rt, nx_bk, nx_ct, nx_ex, nx_st, e_seq, e_var, e_c, e_op, e_un, e_nil, e_cons, e_call, e_tup, e_lst, e_otup, e_olst, e_gd, e_asg, e_drop, e_ret, e_retN, e_next, e_brk, e_cont, e_ifs, e_setS, e_aug, e_augS, e_tru, e_bl, e_and, e_or, e_not, e_andV, e_orV, e_notV, e_if, e_chain, e_nop, e_part, e_sl, e_iSeq, e_iR1, e_iR2, rngOk_of, rngOk2_of, e_for, e_lc, e_yes, e_mt, e_mt2, e_join, e_put, e_fits, Tg.put, TgL.puts, hip, hix, ha, hc1, hc2, optP_s, optP_n]
def decode (k : List Int) : Option (List Kv) := dec (k.length + 1) k []
theorem kps_under (n : Nat) (vs : List Kv) : P.unders n (vs.map kp) = true := uns_all fun x hx => by
  obtain ⟨v, _, rfl⟩ := List.mem_map.mp hx
  cases v <;> simp [kp]
theorem values_of_k (k : List Int) (m : M) (hk : k.length ≤ 80000) : f_values_of [ip k] m = .ok (optP (fun vs : List Kv => .tup (vs.map kp)) (decode k)) m := by
  obtain ⟨xs, hx⟩ := decode_loop k m (by omega) (k.length + 1) manyTurns 0 [] none (by unfold manyTurns; omega) (by simp) (by simp; omega)
  simp only [List.drop_zero, List.map_nil] at hx
  unfold f_values_of fnC fnF fb_values_of fWhile
  unfold decode
  rw [show ((0 : Nat) : Int) = 0 from rfl] at hx
  simp [mkL_f, mkL_t, wipeP, mulOk, lw_l, lw_c, lv_l, lv_c, lv_x, sv_l, sv_c, sv_x, sv_t, lw_i, lw_s, lw_t, lv_s, lv_t, lv_i, lv_n, add_ii, add_ss, add_tt, add_ll, add_lc, add_cl, add_cc, sub_ii, plus_ii, mul_ii, mul_li, fdv_ii, mod_ii, pow_ii, neg_i, sh_i, sh_s, sh_t, sh_l, sh_n, sh_b, sh_c, eq_nn, ne_nn, eq_ni, ne_ni, eq_in, ne_in, eq_nb, ne_nb, eq_bn, ne_bn, eq_ns, ne_ns, eq_sn, ne_sn, eq_ii, ne_ii, eq_bb, ne_bb, eq_ss, ne_ss, eq_is, ne_is, eq_si, ne_si, eq_bs, ne_bs, eq_sb, ne_sb, isn_n, non_n, isn_i, non_i, isn_b, non_b, isn_s, non_s, isn_t, non_t, isn_l, non_l, isn_c, non_c, isn_x, non_x, tru_n, tru_b, tru_i, tru_t, tru_l, notv_b, ix_t, ix_s, ix_l, ix_x, ix_c, ixl_c, sl_t, sl_s, sl_l, sl_c, rev_l, rev_c, len_t, len_l, len_x, len_s, len_c, list_t, list_l, list_x, list_c, tuple_t, tuple_l, tuple_c, int_i, int_b, abs_i, ord_s, isi_n, isi_b, isi_i, isi_s, isi_t, isi_l, isi_c, kindc, max_ii, min_ii, app_c, ext_c, set_c, sidx_ss, cm_ii, cm_ile, cm_igt, cm_ige, isl_l, isl_c, isl_s, iss_s, iss_l, b_ok, b_st, b_ex, o_ok, o_st, o_ex, c_ok, c_st, c_ex, fin_rt, fin_nx, fin_st, nx_nx, nx_rt, nx_bk, nx_ct, nx_ex, nx_st, e_seq, e_var, e_c, e_op, e_un, e_nil, e_cons, e_call, e_tup, e_lst, e_otup, e_olst, e_gd, e_asg, e_drop, e_ret, e_retN, e_next, e_brk, e_cont, e_ifs, e_setS, e_aug, e_augS, e_tru, e_bl, e_and, e_or, e_not, e_andV, e_orV, e_notV, e_if, e_chain, e_nop, e_part, e_sl, e_iSeq, e_iR1, e_iR2, rngOk_of, rngOk2_of, e_for, e_lc, e_yes, e_mt, e_mt2, e_join, e_put, e_fits, Tg.put, TgL.puts, startP, hx]
  cases dec (k.length + 1) k [] <;> simp [optP_s, optP_n, cut_tree, kps_under, mkL_f, mkL_t, wipeP, mulOk, lw_l, lw_c, lv_l, lv_c, lv_x, sv_l, sv_c, sv_x, sv_t, lw_i, lw_s, lw_t, lv_s, lv_t, lv_i, lv_n, add_ii, add_ss, add_tt, add_ll, add_lc, add_cl, add_cc, sub_ii, plus_ii, mul_ii, mul_li, fdv_ii, mod_ii, pow_ii, neg_i, sh_i, sh_s, sh_t, sh_l, sh_n, sh_b, sh_c, eq_nn, ne_nn, eq_ni, ne_ni, eq_in, ne_in, eq_nb, ne_nb, eq_bn, ne_bn, eq_ns, ne_ns, eq_sn, ne_sn, eq_ii, ne_ii, eq_bb, ne_bb, eq_ss, ne_ss, eq_is, ne_is, eq_si, ne_si, eq_bs, ne_bs, eq_sb, ne_sb, isn_n, non_n, isn_i, non_i, isn_b, non_b, isn_s, non_s, isn_t, non_t, isn_l, non_l, isn_c, non_c, isn_x, non_x, tru_n, tru_b, tru_i, tru_t, tru_l, notv_b, ix_t, ix_s, ix_l, ix_x, ix_c, ixl_c, sl_t, sl_s, sl_l, sl_c, rev_l, rev_c, len_t, len_l, len_x, len_s, len_c, list_t, list_l, list_x, list_c, tuple_t, tuple_l, tuple_c, int_i, int_b, abs_i, ord_s, isi_n, isi_b, isi_i, isi_s, isi_t, isi_l, isi_c, kindc, max_ii, min_ii, app_c, ext_c, set_c, sidx_ss, cm_ii, cm_ile, cm_igt, cm_ige, isl_l, isl_c, isl_s, iss_s, iss_l, b_ok, b_st, b_ex, o_ok, o_st, o_ex, c_ok, c_st, c_ex, fin_rt, fin_nx, fin_st, nx_nx, nx_rt, nx_bk, nx_ct, nx_ex, nx_st, e_seq, e_var, e_c, e_op, e_un, e_nil, e_cons, e_call, e_tup, e_lst, e_otup, e_olst, e_gd, e_asg, e_drop, e_ret, e_retN, e_next, e_brk, e_cont, e_ifs, e_setS, e_aug, e_augS, e_tru, e_bl, e_and, e_or, e_not, e_andV, e_orV, e_notV, e_if, e_chain, e_nop, e_part, e_sl, e_iSeq, e_iR1, e_iR2, rngOk_of, rngOk2_of, e_for, e_lc, e_yes, e_mt, e_mt2, e_join, e_put, e_fits, Tg.put, TgL.puts]

end
/-! K2 -/
section
open PySem PySem.Spec PyProof.Rows
/-! ### the law's draws -/
def stC (sc : List Int) (i : Nat) (h s : Int) : Cell := .lst [.lst (sc.map .int), .int i, .int h, .int s]
/-- the state stands at cell n -/
def StAt (n : Nat) (m : M) : Prop := ∃ sc i h s, m[n]? = some (stC sc i h s) ∧ 0 ≤ h ∧ 0 ≤ s
theorem StAt.lt {n : Nat} {m : M} (h : StAt n m) : n < m.length := by
  obtain ⟨_, _, _, _, e, _⟩ := h
  exact (List.getElem?_eq_some_iff.mp e).1
theorem stC_under (sc i h s) (k : Nat) : (stC sc i h s).under k = true := by
  unfold stC Cell.under
  simp
theorem next_k {n : Nat} {m : M} (L : Int) (hs : StAt n m) (hL : 0 < L ∧ L < 2 ^ 62) : ∃ r c, f_next [.cell n, .int L] m = .ok (.int r) (m.set n c) ∧ 0 ≤ r ∧ r < L ∧ StAt n (m.set n c) := by
  have hn := hs.lt
  obtain ⟨sc, i, h, s, e, h0, s0⟩ := hs
  have g : ∀ c, (m.set n c)[n]? = some c := fun c => List.getElem?_set_self hn
  -- the first part
  have s1 : ∃ i' h' s' o, (fIfS (fAnd (fBl (fOp oEq (fOp oIx (fVar 0) (fC (.int 2))) (fC (.int 0)))) (fBl (fOp (oCm .lt) (fOp oIx (fVar 0) (fC (.int 1))) (fCall oLen (fCons (fOp oIx (fVar 0) (fC (.int 0))) fNil))))) (fSeq (fAsg (.name 2) (fOp oIx (fOp oIx (fVar 0) (fC (.int 0))) (fOp oIx (fVar 0) (fC (.int 1)))))
  (fSeq (fAugS (fVar 0) (fC (.int 1)) oPlus (fC (.int 1)))
  (fIfS (fBl (fOp (oCm .ge) (fVar 2) (fOp oPow (fC (.int 10)) (fC (.int 18))))) (fSetS (fVar 0) (fC (.int 2)) (fVar 2)) (fSetS (fVar 0) (fC (.int 3)) (fOp oMod (fCall oInt (fCons (fOp (oAdd false) (fOp (oAdd false) (fOp (oMul false) (fOp oIx (fVar 0) (fC (.int 3))) (fC (.int 48271))) (fOp oMod (fCall oInt (fCons (fVar 2) fNil)) (fC (.int 2147483647)))) (fC (.int 7))) fNil)) (fC (.int 2147483647))))))) fNext) [some (.cell n), some (.int L), none, none] m = .nx [some (.cell n), some (.int L), o, none] (m.set n (stC sc i' h' s')) ∧ 0 ≤ h' ∧ 0 ≤ s' := by
    have me : m = m.set n (stC sc i h s) := by
      apply List.ext_getElem?
      intro j
      by_cases q : n = j
      · subst q; rw [g, e]
      · rw [List.getElem?_set_ne q]
    by_cases c1 : h = 0
    · by_cases c2 : i < sc.length
      · have hx : sc[i]? = some sc[i] := List.getElem?_eq_getElem c2
        generalize sc[i] = x at hx
        have c2' : (i : Int) < (sc.length : Int) := by omega
        by_cases c3 : 1000000000000000000 ≤ x
        · refine ⟨i + 1, x, s, some (.int x), ?_, by omega, s0⟩
          simp [mkL_f, mkL_t, wipeP, mulOk, lw_l, lw_c, lv_l, lv_c, lv_x, sv_l, sv_c, sv_x, sv_t, lw_i, lw_s, lw_t, lv_s, lv_t, lv_i, lv_n, add_ii, add_ss, add_tt, add_ll, add_lc, add_cl, add_cc, sub_ii, plus_ii, mul_ii, mul_li, fdv_ii, mod_ii, pow_ii, neg_i, sh_i, sh_s, sh_t, sh_l, sh_n, sh_b, sh_c, eq_nn, ne_nn, eq_ni, ne_ni, eq_in, ne_in, eq_nb, ne_nb, eq_bn, ne_bn, eq_ns, ne_ns, eq_sn, ne_sn, eq_ii, ne_ii, eq_bb, ne_bb, eq_ss, ne_ss, eq_is, ne_is, eq_si, ne_si, eq_bs, ne_bs, eq_sb, ne_sb, isn_n, non_n, isn_i, non_i, isn_b, non_b, isn_s, non_s, isn_t, non_t, isn_l, non_l, isn_c, non_c, isn_x, non_x, tru_n, tru_b, tru_i, tru_t, tru_l, notv_b, ix_t, ix_s, ix_l, ix_x, ix_c, ixl_c, sl_t, sl_s, sl_l, sl_c, rev_l, rev_c, len_t, len_l, len_x, len_s, len_c, list_t, list_l, list_x, list_c, tuple_t, tuple_l, tuple_c, int_i, int_b, abs_i, ord_s, isi_n, isi_b, isi_i, isi_s, isi_t, isi_l, isi_c, kindc, max_ii, min_ii, app_c, ext_c, set_c, sidx_ss, cm_ii, cm_ile, cm_igt, cm_ige, isl_l, isl_c, isl_s, iss_s, iss_l, b_ok, b_st, b_ex, o_ok, o_st, o_ex, c_ok, c_st, c_ex, fin_rt, fin_nx, fin_st, nx_nx, nx_rt, nx_bk, nx_ct, nx_ex, nx_st, e_seq, e_var, e_c, e_op, e_un, e_nil, e_cons, e_call, e_tup, e_lst, e_otup, e_olst, e_gd, e_asg, e_drop, e_ret, e_retN, e_next, e_brk, e_cont, e_ifs, e_setS, e_aug, e_augS, e_tru, e_bl, e_and, e_or, e_not, e_andV, e_orV, e_notV, e_if, e_chain, e_nop, e_part, e_sl, e_iSeq, e_iR1, e_iR2, rngOk_of, rngOk2_of, e_for, e_lc, e_yes, e_mt, e_mt2, e_join, e_put, e_fits, Tg.put, TgL.puts, e, stC, atI_0, atI_1, atI_2, atI_3, atI_nat', c1, c2', hx, g, ixN, c3]
        · refine ⟨i + 1, 0, (s * 48271 + x % 2147483647 + 7) % 2147483647, some (.int x), ?_, by omega, by omega⟩
          simp [mkL_f, mkL_t, wipeP, mulOk, lw_l, lw_c, lv_l, lv_c, lv_x, sv_l, sv_c, sv_x, sv_t, lw_i, lw_s, lw_t, lv_s, lv_t, lv_i, lv_n, add_ii, add_ss, add_tt, add_ll, add_lc, add_cl, add_cc, sub_ii, plus_ii, mul_ii, mul_li, fdv_ii, mod_ii, pow_ii, neg_i, sh_i, sh_s, sh_t, sh_l, sh_n, sh_b, sh_c, eq_nn, ne_nn, eq_ni, ne_ni, eq_in, ne_in, eq_nb, ne_nb, eq_bn, ne_bn, eq_ns, ne_ns, eq_sn, ne_sn, eq_ii, ne_ii, eq_bb, ne_bb, eq_ss, ne_ss, eq_is, ne_is, eq_si, ne_si, eq_bs, ne_bs, eq_sb, ne_sb, isn_n, non_n, isn_i, non_i, isn_b, non_b, isn_s, non_s, isn_t, non_t, isn_l, non_l, isn_c, non_c, isn_x, non_x, tru_n, tru_b, tru_i, tru_t, tru_l, notv_b, ix_t, ix_s, ix_l, ix_x, ix_c, ixl_c, sl_t, sl_s, sl_l, sl_c, rev_l, rev_c, len_t, len_l, len_x, len_s, len_c, list_t, list_l, list_x, list_c, tuple_t, tuple_l, tuple_c, int_i, int_b, abs_i, ord_s, isi_n, isi_b, isi_i, isi_s, isi_t, isi_l, isi_c, kindc, max_ii, min_ii, app_c, ext_c, set_c, sidx_ss, cm_ii, cm_ile, cm_igt, cm_ige, isl_l, isl_c, isl_s, iss_s, iss_l, b_ok, b_st, b_ex, o_ok, o_st, o_ex, c_ok, c_st, c_ex, fin_rt, fin_nx, fin_st, nx_nx, nx_rt, nx_bk, nx_ct, nx_ex, nx_st, e_seq, e_var, e_c, e_op, e_un, e_nil, e_cons, e_call, e_tup, e_lst, e_otup, e_olst, e_gd, e_asg, e_drop, e_ret, e_retN, e_next, e_brk, e_cont, e_ifs, e_setS, e_aug, e_augS, e_tru, e_bl, e_and, e_or, e_not, e_andV, e_orV, e_notV, e_if, e_chain, e_nop, e_part, e_sl, e_iSeq, e_iR1, e_iR2, rngOk_of, rngOk2_of, e_for, e_lc, e_yes, e_mt, e_mt2, e_join, e_put, e_fits, Tg.put, TgL.puts, e, stC, atI_0, atI_1, atI_2, atI_3, atI_nat', c1, c2', hx, g, ixN, c3]
      · have c2' : ¬ (i : Int) < (sc.length : Int) := by omega
        refine ⟨i, h, s, none, ?_, h0, s0⟩
        rw [← me]
        simp [mkL_f, mkL_t, wipeP, mulOk, lw_l, lw_c, lv_l, lv_c, lv_x, sv_l, sv_c, sv_x, sv_t, lw_i, lw_s, lw_t, lv_s, lv_t, lv_i, lv_n, add_ii, add_ss, add_tt, add_ll, add_lc, add_cl, add_cc, sub_ii, plus_ii, mul_ii, mul_li, fdv_ii, mod_ii, pow_ii, neg_i, sh_i, sh_s, sh_t, sh_l, sh_n, sh_b, sh_c, eq_nn, ne_nn, eq_ni, ne_ni, eq_in, ne_in, eq_nb, ne_nb, eq_bn, ne_bn, eq_ns, ne_ns, eq_sn, ne_sn, eq_ii, ne_ii, eq_bb, ne_bb, eq_ss, ne_ss, eq_is, ne_is, eq_si, ne_si, eq_bs, ne_bs, eq_sb, ne_sb, isn_n, non_n, isn_i, non_i, isn_b, non_b, isn_s, non_s, isn_t, non_t, isn_l, non_l, isn_c, non_c, isn_x, non_x, tru_n, tru_b, tru_i, tru_t, tru_l, notv_b, ix_t, ix_s, ix_l, ix_x, ix_c, ixl_c, sl_t, sl_s, sl_l, sl_c, rev_l, rev_c, len_t, len_l, len_x, len_s, len_c, list_t, list_l, list_x, list_c, tuple_t, tuple_l, tuple_c, int_i, int_b, abs_i, ord_s, isi_n, isi_b, isi_i, isi_s, isi_t, isi_l, isi_c, kindc, max_ii, min_ii, app_c, ext_c, set_c, sidx_ss, cm_ii, cm_ile, cm_igt, cm_ige, isl_l, isl_c, isl_s, iss_s, iss_l, b_ok, b_st, b_ex, o_ok, o_st, o_ex, c_ok, c_st, c_ex, fin_rt, fin_nx, fin_st, nx_nx, nx_rt, nx_bk, nx_ct, nx_ex, nx_st, e_seq, e_var, e_c, e_op, e_un, e_nil, e_cons, e_call, e_tup, e_lst, e_otup, e_olst, e_gd, e_asg, e_drop, e_ret, e_retN, e_next, e_brk, e_cont, e_ifs, e_setS, e_aug, e_augS, e_tru, e_bl, e_and, e_or, e_not, e_andV, e_orV, e_notV, e_if, e_chain, e_nop, e_part, e_sl, e_iSeq, e_iR1, e_iR2, rngOk_of, rngOk2_of, e_for, e_lc, e_yes, e_mt, e_mt2, e_join, e_put, e_fits, Tg.put, TgL.puts, e, stC, atI_0, atI_1, atI_2, c1, c2']
    · refine ⟨i, h, s, none, ?_, h0, s0⟩
      rw [← me]
      simp [mkL_f, mkL_t, wipeP, mulOk, lw_l, lw_c, lv_l, lv_c, lv_x, sv_l, sv_c, sv_x, sv_t, lw_i, lw_s, lw_t, lv_s, lv_t, lv_i, lv_n, add_ii, add_ss, add_tt, add_ll, add_lc, add_cl, add_cc, sub_ii, plus_ii, mul_ii, mul_li, fdv_ii, mod_ii, pow_ii, neg_i, sh_i, sh_s, sh_t, sh_l, sh_n, sh_b, sh_c, eq_nn, ne_nn, eq_ni, ne_ni, eq_in, ne_in, eq_nb, ne_nb, eq_bn, ne_bn, eq_ns, ne_ns, eq_sn, ne_sn, eq_ii, ne_ii, eq_bb, ne_bb, eq_ss, ne_ss, eq_is, ne_is, eq_si, ne_si, eq_bs, ne_bs, eq_sb, ne_sb, isn_n, non_n, isn_i, non_i, isn_b, non_b, isn_s, non_s, isn_t, non_t, isn_l, non_l, isn_c, non_c, isn_x, non_x, tru_n, tru_b, tru_i, tru_t, tru_l, notv_b, ix_t, ix_s, ix_l, ix_x, ix_c, ixl_c, sl_t, sl_s, sl_l, sl_c, rev_l, rev_c, len_t, len_l, len_x, len_s, len_c, list_t, list_l, list_x, list_c, tuple_t, tuple_l, tuple_c, int_i, int_b, abs_i, ord_s, isi_n, isi_b, isi_i, isi_s, isi_t, isi_l, isi_c, kindc, max_ii, min_ii, app_c, ext_c, set_c, sidx_ss, cm_ii, cm_ile, cm_igt, cm_ige, isl_l, isl_c, isl_s, iss_s, iss_l, b_ok, b_st, b_ex, o_ok, o_st, o_ex, c_ok, c_st, c_ex, fin_rt, fin_nx, fin_st, nx_nx, nx_rt, nx_bk, nx_ct, nx_ex, nx_st, e_seq, e_var, e_c, e_op, e_un, e_nil, e_cons, e_call, e_tup, e_lst, e_otup, e_olst, e_gd, e_asg, e_drop, e_ret, e_retN, e_next, e_brk, e_cont, e_ifs, e_setS, e_aug, e_augS, e_tru, e_bl, e_and, e_or, e_not, e_andV, e_orV, e_notV, e_if, e_chain, e_nop, e_part, e_sl, e_iSeq, e_iR1, e_iR2, rngOk_of, rngOk2_of, e_for, e_lc, e_yes, e_mt, e_mt2, e_join, e_put, e_fits, Tg.put, TgL.puts, e, stC, atI_2, c1]
  obtain ⟨i', h', s', o, e1, h1, h2⟩ := s1
  have fin : ∀ r c, P.under m.length (.int r) = true → c.under m.length = true → cutV' m (.int r) (m.set n c) = .ok (.int r) (m.set n c) := fun r c h1 h2 => by
    rw [cut_at (OkCut.refl.set h2) h1, List.take_of_length_le (by rw [List.length_set]; exact Nat.le_refl _)]
  have mod : ∀ a, 0 ≤ a % L ∧ a % L < L := fun a => ⟨Int.emod_nonneg _ (by omega), Int.emod_lt_of_pos _ (by omega)⟩
  by_cases c1 : 0 < h'
  · refine ⟨h' % L, stC sc i' (h' / L) s', ?_, (mod _).1, (mod _).2, ⟨sc, i', _, s', g _, Int.ediv_nonneg h1 (by omega), h2⟩⟩
    unfold f_next fnC fnF fb_next
    have hL2 : L < 4611686018427387904 := hL.2
    simp only [startP, List.map_cons, List.map_nil, List.length_cons, List.length_nil, Nat.zero_add, Nat.reduceAdd, Nat.reduceSub, List.replicate, List.cons_append, List.nil_append]
    rw [e_seq, e1, nx_nx]
    have hu : (stC sc i' (h' / L) s').under m.length = true := stC_under _ _ _ _ _
    have := fin (h' % L) (stC sc i' (h' / L) s') un_int hu
    simp [stC] at this
    simp [mkL_f, mkL_t, wipeP, mulOk, lw_l, lw_c, lv_l, lv_c, lv_x, sv_l, sv_c, sv_x, sv_t, lw_i, lw_s, lw_t, lv_s, lv_t, lv_i, lv_n, add_ii, add_ss, add_tt, add_ll, add_lc, add_cl, add_cc, sub_ii, plus_ii, mul_ii, mul_li, fdv_ii, mod_ii, pow_ii, neg_i, sh_i, sh_s, sh_t, sh_l, sh_n, sh_b, sh_c, eq_nn, ne_nn, eq_ni, ne_ni, eq_in, ne_in, eq_nb, ne_nb, eq_bn, ne_bn, eq_ns, ne_ns, eq_sn, ne_sn, eq_ii, ne_ii, eq_bb, ne_bb, eq_ss, ne_ss, eq_is, ne_is, eq_si, ne_si, eq_bs, ne_bs, eq_sb, ne_sb, isn_n, non_n, isn_i, non_i, isn_b, non_b, isn_s, non_s, isn_t, non_t, isn_l, non_l, isn_c, non_c, isn_x, non_x, tru_n, tru_b, tru_i, tru_t, tru_l, notv_b, ix_t, ix_s, ix_l, ix_x, ix_c, ixl_c, sl_t, sl_s, sl_l, sl_c, rev_l, rev_c, len_t, len_l, len_x, len_s, len_c, list_t, list_l, list_x, list_c, tuple_t, tuple_l, tuple_c, int_i, int_b, abs_i, ord_s, isi_n, isi_b, isi_i, isi_s, isi_t, isi_l, isi_c, kindc, max_ii, min_ii, app_c, ext_c, set_c, sidx_ss, cm_ii, cm_ile, cm_igt, cm_ige, isl_l, isl_c, isl_s, iss_s, iss_l, b_ok, b_st, b_ex, o_ok, o_st, o_ex, c_ok, c_st, c_ex, fin_rt, fin_nx, fin_st, nx_nx, nx_rt, nx_bk, nx_ct, nx_ex, nx_st, e_seq, e_var, e_c, e_op, e_un, e_nil, e_cons, e_call, e_tup, e_lst, e_otup, e_olst, e_gd, e_asg, e_drop, e_ret, e_retN, e_next, e_brk, e_cont, e_ifs, e_setS, e_aug, e_augS, e_tru, e_bl, e_and, e_or, e_not, e_andV, e_orV, e_notV, e_if, e_chain, e_nop, e_part, e_sl, e_iSeq, e_iR1, e_iR2, rngOk_of, rngOk2_of, e_for, e_lc, e_yes, e_mt, e_mt2, e_join, e_put, e_fits, Tg.put, TgL.puts, stC, g, atI_2, c1, ixN, hL.1, hL2, this]
  · refine ⟨(s' * 69621 + 12345) % 2147483647 / 7 % L, stC sc i' h' ((s' * 69621 + 12345) % 2147483647), ?_, (mod _).1, (mod _).2, ⟨sc, i', h', _, g _, h1, by omega⟩⟩
    unfold f_next fnC fnF fb_next
    simp only [startP, List.map_cons, List.map_nil, List.length_cons, List.length_nil, Nat.zero_add, Nat.reduceAdd, Nat.reduceSub, List.replicate, List.cons_append, List.nil_append]
    rw [e_seq, e1, nx_nx]
    have hu : (stC sc i' h' ((s' * 69621 + 12345) % 2147483647)).under m.length = true := stC_under _ _ _ _ _
    have := fin ((s' * 69621 + 12345) % 2147483647 / 7 % L) _ un_int hu
    simp [stC] at this
    simp [mkL_f, mkL_t, wipeP, mulOk, lw_l, lw_c, lv_l, lv_c, lv_x, sv_l, sv_c, sv_x, sv_t, lw_i, lw_s, lw_t, lv_s, lv_t, lv_i, lv_n, add_ii, add_ss, add_tt, add_ll, add_lc, add_cl, add_cc, sub_ii, plus_ii, mul_ii, mul_li, fdv_ii, mod_ii, pow_ii, neg_i, sh_i, sh_s, sh_t, sh_l, sh_n, sh_b, sh_c, eq_nn, ne_nn, eq_ni, ne_ni, eq_in, ne_in, eq_nb, ne_nb, eq_bn, ne_bn, eq_ns, ne_ns, eq_sn, ne_sn, eq_ii, ne_ii, eq_bb, ne_bb, eq_ss, ne_ss, eq_is, ne_is, eq_si, ne_si, eq_bs, ne_bs, eq_sb, ne_sb, isn_n, non_n, isn_i, non_i, isn_b, non_b, isn_s, non_s, isn_t, non_t, isn_l, non_l, isn_c, non_c, isn_x, non_x, tru_n, tru_b, tru_i, tru_t, tru_l, notv_b, ix_t, ix_s, ix_l, ix_x, ix_c, ixl_c, sl_t, sl_s, sl_l, sl_c, rev_l, rev_c, len_t, len_l, len_x, len_s, len_c, list_t, list_l, list_x, list_c, tuple_t, tuple_l, tuple_c, int_i, int_b, abs_i, ord_s, isi_n, isi_b, isi_i, isi_s, isi_t, isi_l, isi_c, kindc, max_ii, min_ii, app_c, ext_c, set_c, sidx_ss, cm_ii, cm_ile, cm_igt, cm_ige, isl_l, isl_c, isl_s, iss_s, iss_l, b_ok, b_st, b_ex, o_ok, o_st, o_ex, c_ok, c_st, c_ex, fin_rt, fin_nx, fin_st, nx_nx, nx_rt, nx_bk, nx_ct, nx_ex, nx_st, e_seq, e_var, e_c, e_op, e_un, e_nil, e_cons, e_call, e_tup, e_lst, e_otup, e_olst, e_gd, e_asg, e_drop, e_ret, e_retN, e_next, e_brk, e_cont, e_ifs, e_setS, e_aug, e_augS, e_tru, e_bl, e_and, e_or, e_not, e_andV, e_orV, e_notV, e_if, e_chain, e_nop, e_part, e_sl, e_iSeq, e_iR1, e_iR2, rngOk_of, rngOk2_of, e_for, e_lc, e_yes, e_mt, e_mt2, e_join, e_put, e_fits, Tg.put, TgL.puts, stC, g, atI_2, atI_3, c1, ixN, hL.1, this]

end
/-! K3 -/
section
open PySem PySem.Spec PyProof.Rows

/-- only the state changes -/
def Stp (n : Nat) (m m' : M) : Prop := (∃ c, m' = m.set n c) ∧ StAt n m'
theorem Stp.refl {n : Nat} {m : M} (h : StAt n m) : Stp n m m := by
  obtain ⟨sc, i, hh, s, e, h0⟩ := id h
  refine ⟨⟨stC sc i hh s, ?_⟩, h⟩
  apply List.ext_getElem?
  intro j
  by_cases q : n = j
  · subst q; rw [List.getElem?_set_self h.lt, e]
  · rw [List.getElem?_set_ne q]
theorem Stp.trans {n : Nat} {m m' m'' : M} (a : Stp n m m') (b : Stp n m' m'') : Stp n m m'' := by
  obtain ⟨⟨c, rfl⟩, _⟩ := a
  obtain ⟨⟨d, rfl⟩, h⟩ := b
  exact ⟨⟨d, List.set_set ..⟩, h⟩
theorem Stp.len {n : Nat} {m m' : M} (a : Stp n m m') : m'.length = m.length := by
  obtain ⟨⟨c, rfl⟩, _⟩ := a
  exact List.length_set
theorem Stp.cut {n : Nat} {m m' : M} (a : Stp n m m') {d : P} (l : M) (hd : P.under m.length d = true) : cutV' m d (m' ++ l) = .ok d m' := by
  have hl := a.len
  obtain ⟨⟨c, rfl⟩, h⟩ := a
  have hn : n < m.length := by have := h.lt; rwa [hl] at this
  obtain ⟨sc, i, hh, s, e, _⟩ := h
  rw [List.getElem?_set_self hn] at e
  cases e
  rw [cut_at ((OkCut.refl.set (stC_under sc i hh s _)).add) hd, ← hl, List.take_left]
theorem Stp.cut0 {n : Nat} {m m' : M} (a : Stp n m m') {d : P} (hd : P.under m.length d = true) : cutV' m d m' = .ok d m' := by
  have := a.cut [] hd
  rwa [List.append_nil] at this
theorem draw {n : Nat} {m m0 : M} (L : Int) (h : Stp n m0 m) (hL : 0 < L ∧ L < 2 ^ 62) : ∃ r m', f_next [.cell n, .int L] m = .ok (.int r) m' ∧ 0 ≤ r ∧ r < L ∧ Stp n m0 m' := by
  obtain ⟨r, c, e, h1, h2, h3⟩ := next_k L h.2 hL
  exact ⟨r, _, e, h1, h2, h.trans ⟨⟨c, rfl⟩, h3⟩⟩
def CHS : Str := " !\"#$&'()*+,-./0123456789:;<=>?@ABCDEFGHIJKLMNOPQRSTUVWXYZ[\\]^_`abcdefghijklmnopqrstuvwxyz{|}~"
theorem characters_k (m : M) : f_characters [] m = .ok (.str CHS) m := by
  unfold f_characters fnC fnF fb_characters
  simp [mkL_f, mkL_t, wipeP, mulOk, lw_l, lw_c, lv_l, lv_c, lv_x, sv_l, sv_c, sv_x, sv_t, lw_i, lw_s, lw_t, lv_s, lv_t, lv_i, lv_n, add_ii, add_ss, add_tt, add_ll, add_lc, add_cl, add_cc, sub_ii, plus_ii, mul_ii, mul_li, fdv_ii, mod_ii, pow_ii, neg_i, sh_i, sh_s, sh_t, sh_l, sh_n, sh_b, sh_c, eq_nn, ne_nn, eq_ni, ne_ni, eq_in, ne_in, eq_nb, ne_nb, eq_bn, ne_bn, eq_ns, ne_ns, eq_sn, ne_sn, eq_ii, ne_ii, eq_bb, ne_bb, eq_ss, ne_ss, eq_is, ne_is, eq_si, ne_si, eq_bs, ne_bs, eq_sb, ne_sb, isn_n, non_n, isn_i, non_i, isn_b, non_b, isn_s, non_s, isn_t, non_t, isn_l, non_l, isn_c, non_c, isn_x, non_x, tru_n, tru_b, tru_i, tru_t, tru_l, notv_b, ix_t, ix_s, ix_l, ix_x, ix_c, ixl_c, sl_t, sl_s, sl_l, sl_c, rev_l, rev_c, len_t, len_l, len_x, len_s, len_c, list_t, list_l, list_x, list_c, tuple_t, tuple_l, tuple_c, int_i, int_b, abs_i, ord_s, isi_n, isi_b, isi_i, isi_s, isi_t, isi_l, isi_c, kindc, max_ii, min_ii, app_c, ext_c, set_c, sidx_ss, cm_ii, cm_ile, cm_igt, cm_ige, isl_l, isl_c, isl_s, iss_s, iss_l, b_ok, b_st, b_ex, o_ok, o_st, o_ex, c_ok, c_st, c_ex, fin_rt, fin_nx, fin_st, nx_nx, nx_rt, nx_bk, nx_ct, nx_ex, nx_st, e_seq, e_var, e_c, e_op, e_un, e_nil, e_cons, e_call, e_tup, e_lst, e_otup, e_olst, e_gd, e_asg, e_drop, e_ret, e_retN, e_next, e_brk, e_cont, e_ifs, e_setS, e_aug, e_augS, e_tru, e_bl, e_and, e_or, e_not, e_andV, e_orV, e_notV, e_if, e_chain, e_nop, e_part, e_sl, e_iSeq, e_iR1, e_iR2, rngOk_of, rngOk2_of, e_for, e_lc, e_yes, e_mt, e_mt2, e_join, e_put, e_fits, Tg.put, TgL.puts, startP, cut_tree0, CHS]
def chr (k : Nat) : Nat := if k < 5 then 32 + k else 33 + k
theorem chs_at : ∀ k : Nat, k < 94 → CHS.cps.toList[k]? = some (chr k) := by decide +kernel
theorem chs_len : CHS.length = 94 := by decide +kernel
theorem chr_good {k : Nat} (h : k < 94) : GoodC (chr k) := by
  unfold GoodC chr
  split <;> omega
theorem join_chars : ∀ l : List Nat, Txt.join ("" : Str) (l.map fun c => ⟨#[c]⟩) = strL l
  | l => by
    have e0 : ("" : Str) = ⟨#[]⟩ := by decide +kernel
    have key : ∀ l : List Nat, Str.join (⟨#[]⟩ : Str) (l.map fun c => ⟨#[c]⟩) = strL l := fun l => by
      induction l with
      | nil => rfl
      | cons c r ih => cases r with
        | nil => rfl
        | cons d r =>
          show (⟨#[c]⟩ : Str) ++ (⟨#[]⟩ : Str) ++ Str.join (⟨#[]⟩ : Str) ((d :: r).map fun c => ⟨#[c]⟩) = strL (c :: d :: r)
          rw [ih]
          show Str.append (Str.append _ _) _ = _
          unfold Str.append strL
          simp
    show PySem.Builtin.Str.glued _ _ = _
    rw [StrLaws.glued_eq_join, e0]
    exact key l
theorem strsP_chars : ∀ l : List Nat, strsP (l.map fun c => .str ⟨#[c]⟩) = some (l.map fun c => ⟨#[c]⟩)
  | [] => by simp [strsP]
  | c :: l => by simp [strsP, strsP_chars l]
theorem sum_chars : ∀ l : List Nat, ((l.map fun c => (⟨#[c]⟩ : Str)).map (·.length)).sum = l.length
  | [] => rfl
  | c :: l => by
    simp only [List.map_cons, List.sum_cons, sum_chars l, List.length_cons]
    show 1 + _ = _
    omega
theorem join_k (x : List Nat) (m : M) (h : x.length ≤ 100000) : oJoin (.str ("" : Str)) (.lst (x.map fun c => .str ⟨#[c]⟩)) m = .ok (.str (strL x)) m := by
  have e0 : ("" : Str).length = 0 := by decide +kernel
  rw [join_l, strsP_chars]
  simp only [sum_chars, e0, Nat.mul_zero, Nat.add_zero, join_chars]
  rw [if_pos (decide_eq_true (by omega))]
theorem lit0 : ("" : Str) = strL [] := by decide +kernel
theorem lit1 : ("a" : Str) = strL [97] := by decide +kernel
theorem lit2 : ("ab" : Str) = strL [97, 98] := by decide +kernel
theorem lit3 : ("z~ 9!#" : Str) = strL [122, 126, 32, 57, 33, 35] := by decide +kernel
instance (v : Kv) : Decidable v.Good := by cases v <;> (unfold Kv.Good; infer_instance)
theorem value_k {n : Nat} {m : M} (hs : StAt n m) : ∃ v m', f_value [.cell n] m = .ok (kp v) m' ∧ v.Good ∧ Stp n m m' := by
  obtain ⟨r, m1, e1, a1, b1, s1⟩ := draw 12 (Stp.refl hs) (by omega)
  unfold f_value fnC fnF fb_value
  by_cases c1 : r < 5
  · have hr : r = 0 ∨ r = 1 ∨ r = 2 ∨ r = 3 ∨ r = 4 := by omega
    rcases hr with rfl | rfl | rfl | rfl | rfl
    · refine ⟨.n 0, m1, ?_, ⟨by decide, by decide⟩, s1⟩
      simp [mkL_f, mkL_t, wipeP, mulOk, lw_l, lw_c, lv_l, lv_c, lv_x, sv_l, sv_c, sv_x, sv_t, lw_i, lw_s, lw_t, lv_s, lv_t, lv_i, lv_n, add_ii, add_ss, add_tt, add_ll, add_lc, add_cl, add_cc, sub_ii, plus_ii, mul_ii, mul_li, fdv_ii, mod_ii, pow_ii, neg_i, sh_i, sh_s, sh_t, sh_l, sh_n, sh_b, sh_c, eq_nn, ne_nn, eq_ni, ne_ni, eq_in, ne_in, eq_nb, ne_nb, eq_bn, ne_bn, eq_ns, ne_ns, eq_sn, ne_sn, eq_ii, ne_ii, eq_bb, ne_bb, eq_ss, ne_ss, eq_is, ne_is, eq_si, ne_si, eq_bs, ne_bs, eq_sb, ne_sb, isn_n, non_n, isn_i, non_i, isn_b, non_b, isn_s, non_s, isn_t, non_t, isn_l, non_l, isn_c, non_c, isn_x, non_x, tru_n, tru_b, tru_i, tru_t, tru_l, notv_b, ix_t, ix_s, ix_l, ix_x, ix_c, ixl_c, sl_t, sl_s, sl_l, sl_c, rev_l, rev_c, len_t, len_l, len_x, len_s, len_c, list_t, list_l, list_x, list_c, tuple_t, tuple_l, tuple_c, int_i, int_b, abs_i, ord_s, isi_n, isi_b, isi_i, isi_s, isi_t, isi_l, isi_c, kindc, max_ii, min_ii, app_c, ext_c, set_c, sidx_ss, cm_ii, cm_ile, cm_igt, cm_ige, isl_l, isl_c, isl_s, iss_s, iss_l, b_ok, b_st, b_ex, o_ok, o_st, o_ex, c_ok, c_st, c_ex, fin_rt, fin_nx, fin_st, nx_nx, nx_rt, nx_bk, nx_ct, nx_ex, nx_st, e_seq, e_var, e_c, e_op, e_un, e_nil, e_cons, e_call, e_tup, e_lst, e_otup, e_olst, e_gd, e_asg, e_drop, e_ret, e_retN, e_next, e_brk, e_cont, e_ifs, e_setS, e_aug, e_augS, e_tru, e_bl, e_and, e_or, e_not, e_andV, e_orV, e_notV, e_if, e_chain, e_nop, e_part, e_sl, e_iSeq, e_iR1, e_iR2, rngOk_of, rngOk2_of, e_for, e_lc, e_yes, e_mt, e_mt2, e_join, e_put, e_fits, Tg.put, TgL.puts, startP, e1, atI, ixN, s1.cut0, kp]
    · refine ⟨.n 1, m1, ?_, ⟨by decide, by decide⟩, s1⟩
      simp [mkL_f, mkL_t, wipeP, mulOk, lw_l, lw_c, lv_l, lv_c, lv_x, sv_l, sv_c, sv_x, sv_t, lw_i, lw_s, lw_t, lv_s, lv_t, lv_i, lv_n, add_ii, add_ss, add_tt, add_ll, add_lc, add_cl, add_cc, sub_ii, plus_ii, mul_ii, mul_li, fdv_ii, mod_ii, pow_ii, neg_i, sh_i, sh_s, sh_t, sh_l, sh_n, sh_b, sh_c, eq_nn, ne_nn, eq_ni, ne_ni, eq_in, ne_in, eq_nb, ne_nb, eq_bn, ne_bn, eq_ns, ne_ns, eq_sn, ne_sn, eq_ii, ne_ii, eq_bb, ne_bb, eq_ss, ne_ss, eq_is, ne_is, eq_si, ne_si, eq_bs, ne_bs, eq_sb, ne_sb, isn_n, non_n, isn_i, non_i, isn_b, non_b, isn_s, non_s, isn_t, non_t, isn_l, non_l, isn_c, non_c, isn_x, non_x, tru_n, tru_b, tru_i, tru_t, tru_l, notv_b, ix_t, ix_s, ix_l, ix_x, ix_c, ixl_c, sl_t, sl_s, sl_l, sl_c, rev_l, rev_c, len_t, len_l, len_x, len_s, len_c, list_t, list_l, list_x, list_c, tuple_t, tuple_l, tuple_c, int_i, int_b, abs_i, ord_s, isi_n, isi_b, isi_i, isi_s, isi_t, isi_l, isi_c, kindc, max_ii, min_ii, app_c, ext_c, set_c, sidx_ss, cm_ii, cm_ile, cm_igt, cm_ige, isl_l, isl_c, isl_s, iss_s, iss_l, b_ok, b_st, b_ex, o_ok, o_st, o_ex, c_ok, c_st, c_ex, fin_rt, fin_nx, fin_st, nx_nx, nx_rt, nx_bk, nx_ct, nx_ex, nx_st, e_seq, e_var, e_c, e_op, e_un, e_nil, e_cons, e_call, e_tup, e_lst, e_otup, e_olst, e_gd, e_asg, e_drop, e_ret, e_retN, e_next, e_brk, e_cont, e_ifs, e_setS, e_aug, e_augS, e_tru, e_bl, e_and, e_or, e_not, e_andV, e_orV, e_notV, e_if, e_chain, e_nop, e_part, e_sl, e_iSeq, e_iR1, e_iR2, rngOk_of, rngOk2_of, e_for, e_lc, e_yes, e_mt, e_mt2, e_join, e_put, e_fits, Tg.put, TgL.puts, startP, e1, atI, ixN, s1.cut0, kp]
    · refine ⟨.n 2, m1, ?_, ⟨by decide, by decide⟩, s1⟩
      simp [mkL_f, mkL_t, wipeP, mulOk, lw_l, lw_c, lv_l, lv_c, lv_x, sv_l, sv_c, sv_x, sv_t, lw_i, lw_s, lw_t, lv_s, lv_t, lv_i, lv_n, add_ii, add_ss, add_tt, add_ll, add_lc, add_cl, add_cc, sub_ii, plus_ii, mul_ii, mul_li, fdv_ii, mod_ii, pow_ii, neg_i, sh_i, sh_s, sh_t, sh_l, sh_n, sh_b, sh_c, eq_nn, ne_nn, eq_ni, ne_ni, eq_in, ne_in, eq_nb, ne_nb, eq_bn, ne_bn, eq_ns, ne_ns, eq_sn, ne_sn, eq_ii, ne_ii, eq_bb, ne_bb, eq_ss, ne_ss, eq_is, ne_is, eq_si, ne_si, eq_bs, ne_bs, eq_sb, ne_sb, isn_n, non_n, isn_i, non_i, isn_b, non_b, isn_s, non_s, isn_t, non_t, isn_l, non_l, isn_c, non_c, isn_x, non_x, tru_n, tru_b, tru_i, tru_t, tru_l, notv_b, ix_t, ix_s, ix_l, ix_x, ix_c, ixl_c, sl_t, sl_s, sl_l, sl_c, rev_l, rev_c, len_t, len_l, len_x, len_s, len_c, list_t, list_l, list_x, list_c, tuple_t, tuple_l, tuple_c, int_i, int_b, abs_i, ord_s, isi_n, isi_b, isi_i, isi_s, isi_t, isi_l, isi_c, kindc, max_ii, min_ii, app_c, ext_c, set_c, sidx_ss, cm_ii, cm_ile, cm_igt, cm_ige, isl_l, isl_c, isl_s, iss_s, iss_l, b_ok, b_st, b_ex, o_ok, o_st, o_ex, c_ok, c_st, c_ex, fin_rt, fin_nx, fin_st, nx_nx, nx_rt, nx_bk, nx_ct, nx_ex, nx_st, e_seq, e_var, e_c, e_op, e_un, e_nil, e_cons, e_call, e_tup, e_lst, e_otup, e_olst, e_gd, e_asg, e_drop, e_ret, e_retN, e_next, e_brk, e_cont, e_ifs, e_setS, e_aug, e_augS, e_tru, e_bl, e_and, e_or, e_not, e_andV, e_orV, e_notV, e_if, e_chain, e_nop, e_part, e_sl, e_iSeq, e_iR1, e_iR2, rngOk_of, rngOk2_of, e_for, e_lc, e_yes, e_mt, e_mt2, e_join, e_put, e_fits, Tg.put, TgL.puts, startP, e1, atI, ixN, s1.cut0, kp]
    · refine ⟨.n (-1), m1, ?_, ⟨by decide, by decide⟩, s1⟩
      simp [mkL_f, mkL_t, wipeP, mulOk, lw_l, lw_c, lv_l, lv_c, lv_x, sv_l, sv_c, sv_x, sv_t, lw_i, lw_s, lw_t, lv_s, lv_t, lv_i, lv_n, add_ii, add_ss, add_tt, add_ll, add_lc, add_cl, add_cc, sub_ii, plus_ii, mul_ii, mul_li, fdv_ii, mod_ii, pow_ii, neg_i, sh_i, sh_s, sh_t, sh_l, sh_n, sh_b, sh_c, eq_nn, ne_nn, eq_ni, ne_ni, eq_in, ne_in, eq_nb, ne_nb, eq_bn, ne_bn, eq_ns, ne_ns, eq_sn, ne_sn, eq_ii, ne_ii, eq_bb, ne_bb, eq_ss, ne_ss, eq_is, ne_is, eq_si, ne_si, eq_bs, ne_bs, eq_sb, ne_sb, isn_n, non_n, isn_i, non_i, isn_b, non_b, isn_s, non_s, isn_t, non_t, isn_l, non_l, isn_c, non_c, isn_x, non_x, tru_n, tru_b, tru_i, tru_t, tru_l, notv_b, ix_t, ix_s, ix_l, ix_x, ix_c, ixl_c, sl_t, sl_s, sl_l, sl_c, rev_l, rev_c, len_t, len_l, len_x, len_s, len_c, list_t, list_l, list_x, list_c, tuple_t, tuple_l, tuple_c, int_i, int_b, abs_i, ord_s, isi_n, isi_b, isi_i, isi_s, isi_t, isi_l, isi_c, kindc, max_ii, min_ii, app_c, ext_c, set_c, sidx_ss, cm_ii, cm_ile, cm_igt, cm_ige, isl_l, isl_c, isl_s, iss_s, iss_l, b_ok, b_st, b_ex, o_ok, o_st, o_ex, c_ok, c_st, c_ex, fin_rt, fin_nx, fin_st, nx_nx, nx_rt, nx_bk, nx_ct, nx_ex, nx_st, e_seq, e_var, e_c, e_op, e_un, e_nil, e_cons, e_call, e_tup, e_lst, e_otup, e_olst, e_gd, e_asg, e_drop, e_ret, e_retN, e_next, e_brk, e_cont, e_ifs, e_setS, e_aug, e_augS, e_tru, e_bl, e_and, e_or, e_not, e_andV, e_orV, e_notV, e_if, e_chain, e_nop, e_part, e_sl, e_iSeq, e_iR1, e_iR2, rngOk_of, rngOk2_of, e_for, e_lc, e_yes, e_mt, e_mt2, e_join, e_put, e_fits, Tg.put, TgL.puts, startP, e1, atI, ixN, s1.cut0, kp]
    · refine ⟨.n 7, m1, ?_, ⟨by decide, by decide⟩, s1⟩
      simp [mkL_f, mkL_t, wipeP, mulOk, lw_l, lw_c, lv_l, lv_c, lv_x, sv_l, sv_c, sv_x, sv_t, lw_i, lw_s, lw_t, lv_s, lv_t, lv_i, lv_n, add_ii, add_ss, add_tt, add_ll, add_lc, add_cl, add_cc, sub_ii, plus_ii, mul_ii, mul_li, fdv_ii, mod_ii, pow_ii, neg_i, sh_i, sh_s, sh_t, sh_l, sh_n, sh_b, sh_c, eq_nn, ne_nn, eq_ni, ne_ni, eq_in, ne_in, eq_nb, ne_nb, eq_bn, ne_bn, eq_ns, ne_ns, eq_sn, ne_sn, eq_ii, ne_ii, eq_bb, ne_bb, eq_ss, ne_ss, eq_is, ne_is, eq_si, ne_si, eq_bs, ne_bs, eq_sb, ne_sb, isn_n, non_n, isn_i, non_i, isn_b, non_b, isn_s, non_s, isn_t, non_t, isn_l, non_l, isn_c, non_c, isn_x, non_x, tru_n, tru_b, tru_i, tru_t, tru_l, notv_b, ix_t, ix_s, ix_l, ix_x, ix_c, ixl_c, sl_t, sl_s, sl_l, sl_c, rev_l, rev_c, len_t, len_l, len_x, len_s, len_c, list_t, list_l, list_x, list_c, tuple_t, tuple_l, tuple_c, int_i, int_b, abs_i, ord_s, isi_n, isi_b, isi_i, isi_s, isi_t, isi_l, isi_c, kindc, max_ii, min_ii, app_c, ext_c, set_c, sidx_ss, cm_ii, cm_ile, cm_igt, cm_ige, isl_l, isl_c, isl_s, iss_s, iss_l, b_ok, b_st, b_ex, o_ok, o_st, o_ex, c_ok, c_st, c_ex, fin_rt, fin_nx, fin_st, nx_nx, nx_rt, nx_bk, nx_ct, nx_ex, nx_st, e_seq, e_var, e_c, e_op, e_un, e_nil, e_cons, e_call, e_tup, e_lst, e_otup, e_olst, e_gd, e_asg, e_drop, e_ret, e_retN, e_next, e_brk, e_cont, e_ifs, e_setS, e_aug, e_augS, e_tru, e_bl, e_and, e_or, e_not, e_andV, e_orV, e_notV, e_if, e_chain, e_nop, e_part, e_sl, e_iSeq, e_iR1, e_iR2, rngOk_of, rngOk2_of, e_for, e_lc, e_yes, e_mt, e_mt2, e_join, e_put, e_fits, Tg.put, TgL.puts, startP, e1, atI, ixN, s1.cut0, kp]
  · by_cases c2 : r = 5
    · subst c2
      obtain ⟨r2, m2, e2, a2, b2, s2⟩ := draw 2 s1 (by omega)
      obtain ⟨r3, m3, e3, a3, b3, s3⟩ := draw 3 s2 (by omega)
      refine ⟨.n ((1 - 2 * r2) * (1000000000 - r3)), m3, ?_, ?_, s3⟩
      · have hr : r2 = 0 ∨ r2 = 1 := by omega
        have k1 : 1000000000 - r3 < 18446744073709551616 := by omega
        rcases hr with rfl | rfl <;> simp [mkL_f, mkL_t, wipeP, mulOk, lw_l, lw_c, lv_l, lv_c, lv_x, sv_l, sv_c, sv_x, sv_t, lw_i, lw_s, lw_t, lv_s, lv_t, lv_i, lv_n, add_ii, add_ss, add_tt, add_ll, add_lc, add_cl, add_cc, sub_ii, plus_ii, mul_ii, mul_li, fdv_ii, mod_ii, pow_ii, neg_i, sh_i, sh_s, sh_t, sh_l, sh_n, sh_b, sh_c, eq_nn, ne_nn, eq_ni, ne_ni, eq_in, ne_in, eq_nb, ne_nb, eq_bn, ne_bn, eq_ns, ne_ns, eq_sn, ne_sn, eq_ii, ne_ii, eq_bb, ne_bb, eq_ss, ne_ss, eq_is, ne_is, eq_si, ne_si, eq_bs, ne_bs, eq_sb, ne_sb, isn_n, non_n, isn_i, non_i, isn_b, non_b, isn_s, non_s, isn_t, non_t, isn_l, non_l, isn_c, non_c, isn_x, non_x, tru_n, tru_b, tru_i, tru_t, tru_l, notv_b, ix_t, ix_s, ix_l, ix_x, ix_c, ixl_c, sl_t, sl_s, sl_l, sl_c, rev_l, rev_c, len_t, len_l, len_x, len_s, len_c, list_t, list_l, list_x, list_c, tuple_t, tuple_l, tuple_c, int_i, int_b, abs_i, ord_s, isi_n, isi_b, isi_i, isi_s, isi_t, isi_l, isi_c, kindc, max_ii, min_ii, app_c, ext_c, set_c, sidx_ss, cm_ii, cm_ile, cm_igt, cm_ige, isl_l, isl_c, isl_s, iss_s, iss_l, b_ok, b_st, b_ex, o_ok, o_st, o_ex, c_ok, c_st, c_ex, fin_rt, fin_nx, fin_st, nx_nx, nx_rt, nx_bk, nx_ct, nx_ex, nx_st, e_seq, e_var, e_c, e_op, e_un, e_nil, e_cons, e_call, e_tup, e_lst, e_otup, e_olst, e_gd, e_asg, e_drop, e_ret, e_retN, e_next, e_brk, e_cont, e_ifs, e_setS, e_aug, e_augS, e_tru, e_bl, e_and, e_or, e_not, e_andV, e_orV, e_notV, e_if, e_chain, e_nop, e_part, e_sl, e_iSeq, e_iR1, e_iR2, rngOk_of, rngOk2_of, e_for, e_lc, e_yes, e_mt, e_mt2, e_join, e_put, e_fits, Tg.put, TgL.puts, startP, e1, e2, e3, s3.cut0, kp]
      · have hr : r2 = 0 ∨ r2 = 1 := by omega
        rcases hr with rfl | rfl <;> (constructor <;> omega)
    · by_cases c3 : r = 6
      · subst c3
        obtain ⟨r2, m2, e2, a2, b2, s2⟩ := draw 2000000001 s1 (by omega)
        refine ⟨.n (r2 - 1000000000), m2, ?_, ⟨by omega, by omega⟩, s2⟩
        simp [mkL_f, mkL_t, wipeP, mulOk, lw_l, lw_c, lv_l, lv_c, lv_x, sv_l, sv_c, sv_x, sv_t, lw_i, lw_s, lw_t, lv_s, lv_t, lv_i, lv_n, add_ii, add_ss, add_tt, add_ll, add_lc, add_cl, add_cc, sub_ii, plus_ii, mul_ii, mul_li, fdv_ii, mod_ii, pow_ii, neg_i, sh_i, sh_s, sh_t, sh_l, sh_n, sh_b, sh_c, eq_nn, ne_nn, eq_ni, ne_ni, eq_in, ne_in, eq_nb, ne_nb, eq_bn, ne_bn, eq_ns, ne_ns, eq_sn, ne_sn, eq_ii, ne_ii, eq_bb, ne_bb, eq_ss, ne_ss, eq_is, ne_is, eq_si, ne_si, eq_bs, ne_bs, eq_sb, ne_sb, isn_n, non_n, isn_i, non_i, isn_b, non_b, isn_s, non_s, isn_t, non_t, isn_l, non_l, isn_c, non_c, isn_x, non_x, tru_n, tru_b, tru_i, tru_t, tru_l, notv_b, ix_t, ix_s, ix_l, ix_x, ix_c, ixl_c, sl_t, sl_s, sl_l, sl_c, rev_l, rev_c, len_t, len_l, len_x, len_s, len_c, list_t, list_l, list_x, list_c, tuple_t, tuple_l, tuple_c, int_i, int_b, abs_i, ord_s, isi_n, isi_b, isi_i, isi_s, isi_t, isi_l, isi_c, kindc, max_ii, min_ii, app_c, ext_c, set_c, sidx_ss, cm_ii, cm_ile, cm_igt, cm_ige, isl_l, isl_c, isl_s, iss_s, iss_l, b_ok, b_st, b_ex, o_ok, o_st, o_ex, c_ok, c_st, c_ex, fin_rt, fin_nx, fin_st, nx_nx, nx_rt, nx_bk, nx_ct, nx_ex, nx_st, e_seq, e_var, e_c, e_op, e_un, e_nil, e_cons, e_call, e_tup, e_lst, e_otup, e_olst, e_gd, e_asg, e_drop, e_ret, e_retN, e_next, e_brk, e_cont, e_ifs, e_setS, e_aug, e_augS, e_tru, e_bl, e_and, e_or, e_not, e_andV, e_orV, e_notV, e_if, e_chain, e_nop, e_part, e_sl, e_iSeq, e_iR1, e_iR2, rngOk_of, rngOk2_of, e_for, e_lc, e_yes, e_mt, e_mt2, e_join, e_put, e_fits, Tg.put, TgL.puts, startP, e1, e2, s2.cut0, kp]
      · by_cases c4 : r < 10
        · obtain ⟨r2, m2, e2, a2, b2, s2⟩ := draw 9 s1 (by omega)
          have hr : r = 7 ∨ r = 8 ∨ r = 9 := by omega
          by_cases h0 : r2 = 0
          · rcases hr with rfl | rfl | rfl
            · refine ⟨.t [122, 126, 32, 57, 33, 35], m2, ?_, by decide, s2⟩
              simp [mkL_f, mkL_t, wipeP, mulOk, lw_l, lw_c, lv_l, lv_c, lv_x, sv_l, sv_c, sv_x, sv_t, lw_i, lw_s, lw_t, lv_s, lv_t, lv_i, lv_n, add_ii, add_ss, add_tt, add_ll, add_lc, add_cl, add_cc, sub_ii, plus_ii, mul_ii, mul_li, fdv_ii, mod_ii, pow_ii, neg_i, sh_i, sh_s, sh_t, sh_l, sh_n, sh_b, sh_c, eq_nn, ne_nn, eq_ni, ne_ni, eq_in, ne_in, eq_nb, ne_nb, eq_bn, ne_bn, eq_ns, ne_ns, eq_sn, ne_sn, eq_ii, ne_ii, eq_bb, ne_bb, eq_ss, ne_ss, eq_is, ne_is, eq_si, ne_si, eq_bs, ne_bs, eq_sb, ne_sb, isn_n, non_n, isn_i, non_i, isn_b, non_b, isn_s, non_s, isn_t, non_t, isn_l, non_l, isn_c, non_c, isn_x, non_x, tru_n, tru_b, tru_i, tru_t, tru_l, notv_b, ix_t, ix_s, ix_l, ix_x, ix_c, ixl_c, sl_t, sl_s, sl_l, sl_c, rev_l, rev_c, len_t, len_l, len_x, len_s, len_c, list_t, list_l, list_x, list_c, tuple_t, tuple_l, tuple_c, int_i, int_b, abs_i, ord_s, isi_n, isi_b, isi_i, isi_s, isi_t, isi_l, isi_c, kindc, max_ii, min_ii, app_c, ext_c, set_c, sidx_ss, cm_ii, cm_ile, cm_igt, cm_ige, isl_l, isl_c, isl_s, iss_s, iss_l, b_ok, b_st, b_ex, o_ok, o_st, o_ex, c_ok, c_st, c_ex, fin_rt, fin_nx, fin_st, nx_nx, nx_rt, nx_bk, nx_ct, nx_ex, nx_st, e_seq, e_var, e_c, e_op, e_un, e_nil, e_cons, e_call, e_tup, e_lst, e_otup, e_olst, e_gd, e_asg, e_drop, e_ret, e_retN, e_next, e_brk, e_cont, e_ifs, e_setS, e_aug, e_augS, e_tru, e_bl, e_and, e_or, e_not, e_andV, e_orV, e_notV, e_if, e_chain, e_nop, e_part, e_sl, e_iSeq, e_iR1, e_iR2, rngOk_of, rngOk2_of, e_for, e_lc, e_yes, e_mt, e_mt2, e_join, e_put, e_fits, Tg.put, TgL.puts, startP, e1, e2, h0, atI, ixN, s2.cut0, lit0, lit1, lit2, lit3, kp]
            · refine ⟨.t [122, 126, 32, 57, 33, 35], m2, ?_, by decide, s2⟩
              simp [mkL_f, mkL_t, wipeP, mulOk, lw_l, lw_c, lv_l, lv_c, lv_x, sv_l, sv_c, sv_x, sv_t, lw_i, lw_s, lw_t, lv_s, lv_t, lv_i, lv_n, add_ii, add_ss, add_tt, add_ll, add_lc, add_cl, add_cc, sub_ii, plus_ii, mul_ii, mul_li, fdv_ii, mod_ii, pow_ii, neg_i, sh_i, sh_s, sh_t, sh_l, sh_n, sh_b, sh_c, eq_nn, ne_nn, eq_ni, ne_ni, eq_in, ne_in, eq_nb, ne_nb, eq_bn, ne_bn, eq_ns, ne_ns, eq_sn, ne_sn, eq_ii, ne_ii, eq_bb, ne_bb, eq_ss, ne_ss, eq_is, ne_is, eq_si, ne_si, eq_bs, ne_bs, eq_sb, ne_sb, isn_n, non_n, isn_i, non_i, isn_b, non_b, isn_s, non_s, isn_t, non_t, isn_l, non_l, isn_c, non_c, isn_x, non_x, tru_n, tru_b, tru_i, tru_t, tru_l, notv_b, ix_t, ix_s, ix_l, ix_x, ix_c, ixl_c, sl_t, sl_s, sl_l, sl_c, rev_l, rev_c, len_t, len_l, len_x, len_s, len_c, list_t, list_l, list_x, list_c, tuple_t, tuple_l, tuple_c, int_i, int_b, abs_i, ord_s, isi_n, isi_b, isi_i, isi_s, isi_t, isi_l, isi_c, kindc, max_ii, min_ii, app_c, ext_c, set_c, sidx_ss, cm_ii, cm_ile, cm_igt, cm_ige, isl_l, isl_c, isl_s, iss_s, iss_l, b_ok, b_st, b_ex, o_ok, o_st, o_ex, c_ok, c_st, c_ex, fin_rt, fin_nx, fin_st, nx_nx, nx_rt, nx_bk, nx_ct, nx_ex, nx_st, e_seq, e_var, e_c, e_op, e_un, e_nil, e_cons, e_call, e_tup, e_lst, e_otup, e_olst, e_gd, e_asg, e_drop, e_ret, e_retN, e_next, e_brk, e_cont, e_ifs, e_setS, e_aug, e_augS, e_tru, e_bl, e_and, e_or, e_not, e_andV, e_orV, e_notV, e_if, e_chain, e_nop, e_part, e_sl, e_iSeq, e_iR1, e_iR2, rngOk_of, rngOk2_of, e_for, e_lc, e_yes, e_mt, e_mt2, e_join, e_put, e_fits, Tg.put, TgL.puts, startP, e1, e2, h0, atI, ixN, s2.cut0, lit0, lit1, lit2, lit3, kp]
            · refine ⟨.t [122, 126, 32, 57, 33, 35], m2, ?_, by decide, s2⟩
              simp [mkL_f, mkL_t, wipeP, mulOk, lw_l, lw_c, lv_l, lv_c, lv_x, sv_l, sv_c, sv_x, sv_t, lw_i, lw_s, lw_t, lv_s, lv_t, lv_i, lv_n, add_ii, add_ss, add_tt, add_ll, add_lc, add_cl, add_cc, sub_ii, plus_ii, mul_ii, mul_li, fdv_ii, mod_ii, pow_ii, neg_i, sh_i, sh_s, sh_t, sh_l, sh_n, sh_b, sh_c, eq_nn, ne_nn, eq_ni, ne_ni, eq_in, ne_in, eq_nb, ne_nb, eq_bn, ne_bn, eq_ns, ne_ns, eq_sn, ne_sn, eq_ii, ne_ii, eq_bb, ne_bb, eq_ss, ne_ss, eq_is, ne_is, eq_si, ne_si, eq_bs, ne_bs, eq_sb, ne_sb, isn_n, non_n, isn_i, non_i, isn_b, non_b, isn_s, non_s, isn_t, non_t, isn_l, non_l, isn_c, non_c, isn_x, non_x, tru_n, tru_b, tru_i, tru_t, tru_l, notv_b, ix_t, ix_s, ix_l, ix_x, ix_c, ixl_c, sl_t, sl_s, sl_l, sl_c, rev_l, rev_c, len_t, len_l, len_x, len_s, len_c, list_t, list_l, list_x, list_c, tuple_t, tuple_l, tuple_c, int_i, int_b, abs_i, ord_s, isi_n, isi_b, isi_i, isi_s, isi_t, isi_l, isi_c, kindc, max_ii, min_ii, app_c, ext_c, set_c, sidx_ss, cm_ii, cm_ile, cm_igt, cm_ige, isl_l, isl_c, isl_s, iss_s, iss_l, b_ok, b_st, b_ex, o_ok, o_st, o_ex, c_ok, c_st, c_ex, fin_rt, fin_nx, fin_st, nx_nx, nx_rt, nx_bk, nx_ct, nx_ex, nx_st, e_seq, e_var, e_c, e_op, e_un, e_nil, e_cons, e_call, e_tup, e_lst, e_otup, e_olst, e_gd, e_asg, e_drop, e_ret, e_retN, e_next, e_brk, e_cont, e_ifs, e_setS, e_aug, e_augS, e_tru, e_bl, e_and, e_or, e_not, e_andV, e_orV, e_notV, e_if, e_chain, e_nop, e_part, e_sl, e_iSeq, e_iR1, e_iR2, rngOk_of, rngOk2_of, e_for, e_lc, e_yes, e_mt, e_mt2, e_join, e_put, e_fits, Tg.put, TgL.puts, startP, e1, e2, h0, atI, ixN, s2.cut0, lit0, lit1, lit2, lit3, kp]
          · rcases hr with rfl | rfl | rfl
            · refine ⟨.t [], m2, ?_, by decide, s2⟩
              simp [mkL_f, mkL_t, wipeP, mulOk, lw_l, lw_c, lv_l, lv_c, lv_x, sv_l, sv_c, sv_x, sv_t, lw_i, lw_s, lw_t, lv_s, lv_t, lv_i, lv_n, add_ii, add_ss, add_tt, add_ll, add_lc, add_cl, add_cc, sub_ii, plus_ii, mul_ii, mul_li, fdv_ii, mod_ii, pow_ii, neg_i, sh_i, sh_s, sh_t, sh_l, sh_n, sh_b, sh_c, eq_nn, ne_nn, eq_ni, ne_ni, eq_in, ne_in, eq_nb, ne_nb, eq_bn, ne_bn, eq_ns, ne_ns, eq_sn, ne_sn, eq_ii, ne_ii, eq_bb, ne_bb, eq_ss, ne_ss, eq_is, ne_is, eq_si, ne_si, eq_bs, ne_bs, eq_sb, ne_sb, isn_n, non_n, isn_i, non_i, isn_b, non_b, isn_s, non_s, isn_t, non_t, isn_l, non_l, isn_c, non_c, isn_x, non_x, tru_n, tru_b, tru_i, tru_t, tru_l, notv_b, ix_t, ix_s, ix_l, ix_x, ix_c, ixl_c, sl_t, sl_s, sl_l, sl_c, rev_l, rev_c, len_t, len_l, len_x, len_s, len_c, list_t, list_l, list_x, list_c, tuple_t, tuple_l, tuple_c, int_i, int_b, abs_i, ord_s, isi_n, isi_b, isi_i, isi_s, isi_t, isi_l, isi_c, kindc, max_ii, min_ii, app_c, ext_c, set_c, sidx_ss, cm_ii, cm_ile, cm_igt, cm_ige, isl_l, isl_c, isl_s, iss_s, iss_l, b_ok, b_st, b_ex, o_ok, o_st, o_ex, c_ok, c_st, c_ex, fin_rt, fin_nx, fin_st, nx_nx, nx_rt, nx_bk, nx_ct, nx_ex, nx_st, e_seq, e_var, e_c, e_op, e_un, e_nil, e_cons, e_call, e_tup, e_lst, e_otup, e_olst, e_gd, e_asg, e_drop, e_ret, e_retN, e_next, e_brk, e_cont, e_ifs, e_setS, e_aug, e_augS, e_tru, e_bl, e_and, e_or, e_not, e_andV, e_orV, e_notV, e_if, e_chain, e_nop, e_part, e_sl, e_iSeq, e_iR1, e_iR2, rngOk_of, rngOk2_of, e_for, e_lc, e_yes, e_mt, e_mt2, e_join, e_put, e_fits, Tg.put, TgL.puts, startP, e1, e2, h0, atI, ixN, s2.cut0, lit0, lit1, lit2, lit3, kp]
            · refine ⟨.t [97], m2, ?_, by decide, s2⟩
              simp [mkL_f, mkL_t, wipeP, mulOk, lw_l, lw_c, lv_l, lv_c, lv_x, sv_l, sv_c, sv_x, sv_t, lw_i, lw_s, lw_t, lv_s, lv_t, lv_i, lv_n, add_ii, add_ss, add_tt, add_ll, add_lc, add_cl, add_cc, sub_ii, plus_ii, mul_ii, mul_li, fdv_ii, mod_ii, pow_ii, neg_i, sh_i, sh_s, sh_t, sh_l, sh_n, sh_b, sh_c, eq_nn, ne_nn, eq_ni, ne_ni, eq_in, ne_in, eq_nb, ne_nb, eq_bn, ne_bn, eq_ns, ne_ns, eq_sn, ne_sn, eq_ii, ne_ii, eq_bb, ne_bb, eq_ss, ne_ss, eq_is, ne_is, eq_si, ne_si, eq_bs, ne_bs, eq_sb, ne_sb, isn_n, non_n, isn_i, non_i, isn_b, non_b, isn_s, non_s, isn_t, non_t, isn_l, non_l, isn_c, non_c, isn_x, non_x, tru_n, tru_b, tru_i, tru_t, tru_l, notv_b, ix_t, ix_s, ix_l, ix_x, ix_c, ixl_c, sl_t, sl_s, sl_l, sl_c, rev_l, rev_c, len_t, len_l, len_x, len_s, len_c, list_t, list_l, list_x, list_c, tuple_t, tuple_l, tuple_c, int_i, int_b, abs_i, ord_s, isi_n, isi_b, isi_i, isi_s, isi_t, isi_l, isi_c, kindc, max_ii, min_ii, app_c, ext_c, set_c, sidx_ss, cm_ii, cm_ile, cm_igt, cm_ige, isl_l, isl_c, isl_s, iss_s, iss_l, b_ok, b_st, b_ex, o_ok, o_st, o_ex, c_ok, c_st, c_ex, fin_rt, fin_nx, fin_st, nx_nx, nx_rt, nx_bk, nx_ct, nx_ex, nx_st, e_seq, e_var, e_c, e_op, e_un, e_nil, e_cons, e_call, e_tup, e_lst, e_otup, e_olst, e_gd, e_asg, e_drop, e_ret, e_retN, e_next, e_brk, e_cont, e_ifs, e_setS, e_aug, e_augS, e_tru, e_bl, e_and, e_or, e_not, e_andV, e_orV, e_notV, e_if, e_chain, e_nop, e_part, e_sl, e_iSeq, e_iR1, e_iR2, rngOk_of, rngOk2_of, e_for, e_lc, e_yes, e_mt, e_mt2, e_join, e_put, e_fits, Tg.put, TgL.puts, startP, e1, e2, h0, atI, ixN, s2.cut0, lit0, lit1, lit2, lit3, kp]
            · refine ⟨.t [97, 98], m2, ?_, by decide, s2⟩
              simp [mkL_f, mkL_t, wipeP, mulOk, lw_l, lw_c, lv_l, lv_c, lv_x, sv_l, sv_c, sv_x, sv_t, lw_i, lw_s, lw_t, lv_s, lv_t, lv_i, lv_n, add_ii, add_ss, add_tt, add_ll, add_lc, add_cl, add_cc, sub_ii, plus_ii, mul_ii, mul_li, fdv_ii, mod_ii, pow_ii, neg_i, sh_i, sh_s, sh_t, sh_l, sh_n, sh_b, sh_c, eq_nn, ne_nn, eq_ni, ne_ni, eq_in, ne_in, eq_nb, ne_nb, eq_bn, ne_bn, eq_ns, ne_ns, eq_sn, ne_sn, eq_ii, ne_ii, eq_bb, ne_bb, eq_ss, ne_ss, eq_is, ne_is, eq_si, ne_si, eq_bs, ne_bs, eq_sb, ne_sb, isn_n, non_n, isn_i, non_i, isn_b, non_b, isn_s, non_s, isn_t, non_t, isn_l, non_l, isn_c, non_c, isn_x, non_x, tru_n, tru_b, tru_i, tru_t, tru_l, notv_b, ix_t, ix_s, ix_l, ix_x, ix_c, ixl_c, sl_t, sl_s, sl_l, sl_c, rev_l, rev_c, len_t, len_l, len_x, len_s, len_c, list_t, list_l, list_x, list_c, tuple_t, tuple_l, tuple_c, int_i, int_b, abs_i, ord_s, isi_n, isi_b, isi_i, isi_s, isi_t, isi_l, isi_c, kindc, max_ii, min_ii, app_c, ext_c, set_c, sidx_ss, cm_ii, cm_ile, cm_igt, cm_ige, isl_l, isl_c, isl_s, iss_s, iss_l, b_ok, b_st, b_ex, o_ok, o_st, o_ex, c_ok, c_st, c_ex, fin_rt, fin_nx, fin_st, nx_nx, nx_rt, nx_bk, nx_ct, nx_ex, nx_st, e_seq, e_var, e_c, e_op, e_un, e_nil, e_cons, e_call, e_tup, e_lst, e_otup, e_olst, e_gd, e_asg, e_drop, e_ret, e_retN, e_next, e_brk, e_cont, e_ifs, e_setS, e_aug, e_augS, e_tru, e_bl, e_and, e_or, e_not, e_andV, e_orV, e_notV, e_if, e_chain, e_nop, e_part, e_sl, e_iSeq, e_iR1, e_iR2, rngOk_of, rngOk2_of, e_for, e_lc, e_yes, e_mt, e_mt2, e_join, e_put, e_fits, Tg.put, TgL.puts, startP, e1, e2, h0, atI, ixN, s2.cut0, lit0, lit1, lit2, lit3, kp]
        · obtain ⟨a, m2, e2, a2, b2, s2⟩ := draw 94 s1 (by omega)
          obtain ⟨b, m3, e3, a3, b3, s3⟩ := draw 94 s2 (by omega)
          obtain ⟨k, m4, e4, a4, b4, s4⟩ := draw 7 s3 (by omega)
          have hx : ∃ x : List Nat, lcG (.name 4) fYes (fOp oIx (fCall (gd 0 f_characters) fNil) (fOp oMod (fOp (oAdd false) (fVar 2) (fOp (oMul false) (fVar 3) (fVar 4))) (fC (.int 94)))) [] [some (.cell n), some (.int r), some (.int a), some (.int b), none] (rngP 0 k.toNat) m4 = .ok (x.map fun c => .str ⟨#[c]⟩) m4 ∧ x.length = k.toNat ∧ ∀ c ∈ x, GoodC c := by
            refine ⟨(List.range k.toNat).map fun j : Nat => chr ((a + b * j) % 94).toNat, ?_, by simp, fun c hc => ?_⟩
            · rw [List.map_map]
              refine lcG_map (xs := List.range k.toNat) (f := fun i : Nat => .int (0 + (i : Int))) fun j hj => ?_
              obtain ⟨q, hq⟩ : ∃ q : Nat, ((a + b * (j : Int)) % 94) = (q : Int) := ⟨((a + b * j) % 94).toNat, by omega⟩
              have hq2 : q < 94 := by omega
              have k1 : b < 18446744073709551616 := by omega
              have k2 : -18446744073709551616 < b := by omega
              simp [mkL_f, mkL_t, wipeP, mulOk, lw_l, lw_c, lv_l, lv_c, lv_x, sv_l, sv_c, sv_x, sv_t, lw_i, lw_s, lw_t, lv_s, lv_t, lv_i, lv_n, add_ii, add_ss, add_tt, add_ll, add_lc, add_cl, add_cc, sub_ii, plus_ii, mul_ii, mul_li, fdv_ii, mod_ii, pow_ii, neg_i, sh_i, sh_s, sh_t, sh_l, sh_n, sh_b, sh_c, eq_nn, ne_nn, eq_ni, ne_ni, eq_in, ne_in, eq_nb, ne_nb, eq_bn, ne_bn, eq_ns, ne_ns, eq_sn, ne_sn, eq_ii, ne_ii, eq_bb, ne_bb, eq_ss, ne_ss, eq_is, ne_is, eq_si, ne_si, eq_bs, ne_bs, eq_sb, ne_sb, isn_n, non_n, isn_i, non_i, isn_b, non_b, isn_s, non_s, isn_t, non_t, isn_l, non_l, isn_c, non_c, isn_x, non_x, tru_n, tru_b, tru_i, tru_t, tru_l, notv_b, ix_t, ix_s, ix_l, ix_x, ix_c, ixl_c, sl_t, sl_s, sl_l, sl_c, rev_l, rev_c, len_t, len_l, len_x, len_s, len_c, list_t, list_l, list_x, list_c, tuple_t, tuple_l, tuple_c, int_i, int_b, abs_i, ord_s, isi_n, isi_b, isi_i, isi_s, isi_t, isi_l, isi_c, kindc, max_ii, min_ii, app_c, ext_c, set_c, sidx_ss, cm_ii, cm_ile, cm_igt, cm_ige, isl_l, isl_c, isl_s, iss_s, iss_l, b_ok, b_st, b_ex, o_ok, o_st, o_ex, c_ok, c_st, c_ex, fin_rt, fin_nx, fin_st, nx_nx, nx_rt, nx_bk, nx_ct, nx_ex, nx_st, e_seq, e_var, e_c, e_op, e_un, e_nil, e_cons, e_call, e_tup, e_lst, e_otup, e_olst, e_gd, e_asg, e_drop, e_ret, e_retN, e_next, e_brk, e_cont, e_ifs, e_setS, e_aug, e_augS, e_tru, e_bl, e_and, e_or, e_not, e_andV, e_orV, e_notV, e_if, e_chain, e_nop, e_part, e_sl, e_iSeq, e_iR1, e_iR2, rngOk_of, rngOk2_of, e_for, e_lc, e_yes, e_mt, e_mt2, e_join, e_put, e_fits, Tg.put, TgL.puts, characters_k, chs_len, hq, atI_nat', chs_at q hq2, k1, k2]
            · obtain ⟨j, _, rfl⟩ := List.mem_map.mp hc
              exact chr_good (by omega)
          obtain ⟨x, h1, h2, h3⟩ := hx
          refine ⟨.t x, m4, ?_, ⟨by omega, h3⟩, s4⟩
          have k1 : k ≤ 100000 := by omega
          have k2 : (0 : Int) ≤ k := a4
          have k3 : k.toNat ≤ 100000 := by omega
          have k4 : (rngP 0 k.toNat).length ≤ 100000 := by simp [rngP]; omega
          have k5 : x.length ≤ 16777216 := by omega
          simp [mkL_f, mkL_t, wipeP, mulOk, lw_l, lw_c, lv_l, lv_c, lv_x, sv_l, sv_c, sv_x, sv_t, lw_i, lw_s, lw_t, lv_s, lv_t, lv_i, lv_n, add_ii, add_ss, add_tt, add_ll, add_lc, add_cl, add_cc, sub_ii, plus_ii, mul_ii, mul_li, fdv_ii, mod_ii, pow_ii, neg_i, sh_i, sh_s, sh_t, sh_l, sh_n, sh_b, sh_c, eq_nn, ne_nn, eq_ni, ne_ni, eq_in, ne_in, eq_nb, ne_nb, eq_bn, ne_bn, eq_ns, ne_ns, eq_sn, ne_sn, eq_ii, ne_ii, eq_bb, ne_bb, eq_ss, ne_ss, eq_is, ne_is, eq_si, ne_si, eq_bs, ne_bs, eq_sb, ne_sb, isn_n, non_n, isn_i, non_i, isn_b, non_b, isn_s, non_s, isn_t, non_t, isn_l, non_l, isn_c, non_c, isn_x, non_x, tru_n, tru_b, tru_i, tru_t, tru_l, notv_b, ix_t, ix_s, ix_l, ix_x, ix_c, ixl_c, sl_t, sl_s, sl_l, sl_c, rev_l, rev_c, len_t, len_l, len_x, len_s, len_c, list_t, list_l, list_x, list_c, tuple_t, tuple_l, tuple_c, int_i, int_b, abs_i, ord_s, isi_n, isi_b, isi_i, isi_s, isi_t, isi_l, isi_c, kindc, max_ii, min_ii, app_c, ext_c, set_c, sidx_ss, cm_ii, cm_ile, cm_igt, cm_ige, isl_l, isl_c, isl_s, iss_s, iss_l, b_ok, b_st, b_ex, o_ok, o_st, o_ex, c_ok, c_st, c_ex, fin_rt, fin_nx, fin_st, nx_nx, nx_rt, nx_bk, nx_ct, nx_ex, nx_st, e_seq, e_var, e_c, e_op, e_un, e_nil, e_cons, e_call, e_tup, e_lst, e_otup, e_olst, e_gd, e_asg, e_drop, e_ret, e_retN, e_next, e_brk, e_cont, e_ifs, e_setS, e_aug, e_augS, e_tru, e_bl, e_and, e_or, e_not, e_andV, e_orV, e_notV, e_if, e_chain, e_nop, e_part, e_sl, e_iSeq, e_iR1, e_iR2, rngOk_of, rngOk2_of, e_for, e_lc, e_yes, e_mt, e_mt2, e_join, e_put, e_fits, Tg.put, TgL.puts, startP, e1, e2, e3, e4, c1, c2, c3, c4, h1, k1, k2, k3, k4, join_k x _ (by omega), s4.cut0, kp]
/-! ### the law's own bytes -/
theorem chs_index : ∀ k : Nat, k < 94 → Builtin.Str.occurrences CHS ⟨#[chr k]⟩ 0 CHS.length 1 = [k] := by decide +kernel
theorem good_chr {c : Nat} (h : GoodC c) : ∃ k, k < 94 ∧ c = chr k := by
  unfold GoodC at h
  by_cases h1 : c < 37
  · exact ⟨c - 32, by omega, by unfold chr; rw [if_pos (by omega)]; omega⟩
  · exact ⟨c - 33, by omega, by unfold chr; rw [if_neg (by omega)]; omega⟩

end
/-! K4 -/
section
open PySem PySem.Spec PyProof.Rows

theorem lbytes_k {vs : List Kv} (h : ∀ v ∈ vs, v.Good) (hl : vs.length ≤ 1000) (m : M) : f_bytes [.tup (vs.map kp)] m = .ok (ip (keyB vs)) m := by
  have loop : ∀ (ws : List Kv) (acc : List Int) (a : P) (o2 o3 o4 o5 o6 o7 : Option P), (∀ v ∈ ws, v.Good) → acc.length + 8 * ws.length ≤ 90000 →
      ∃ p2 p3 p4 p5 p6 p7, forG (.name 2) (fIfS (fTru (fCall oIsi (fCons (fVar 2) (fCons (fC (.ty "str")) fNil)))) (fSeq (fAsg (.name 3) (fCall (gd 0 f_characters) fNil))
  (fAsg (.name 1) (fOp (oAdd false) (fOp (oAdd false) (fOp (oAdd false) (fVar 1) (fLst false (fCons (fC (.int 2)) fNil))) (fLc false (iSeq (fVar 2)) (.name 7) fYes (fOp (oAdd false) (fOp (oAdd false) (fC (.int 32)) (fMt2 isL isS oLIndex oSIndex (fVar 3) (fCons (fVar 7) fNil))) (fCall oInt (fCons (fOp (oCm .gt) (fMt2 isL isS oLIndex oSIndex (fVar 3) (fCons (fVar 7) fNil)) (fC (.int 4))) fNil))) [7])) (fLst false (fCons (fC (.int 0)) fNil))))) (fSeq (fAsg (.name 4) (fOp (oAdd false) (fVar 2) (fC (.int 549755813888))))
  (fSeq (fAsg (.name 5) (fLst false fNil))
  (fSeq (fFor (iR1 (fCons (fC (.int 5)) fNil)) (.name 6) (fSeq (fAsg (.name 5) (fOp (oAdd false) (fLst false (fCons (fOp oMod (fCall oInt (fCons (fVar 4) fNil)) (fC (.int 256))) fNil)) (fVar 5)))
  (fAsg (.name 4) (fOp oFdv (fVar 4) (fC (.int 256))))))
  (fAsg (.name 1) (fOp (oAdd false) (fOp (oAdd false) (fVar 1) (fLst false (fCons (fC (.int 1)) fNil))) (fVar 5))))))) [] (ws.map kp) [some a, some (.lst (acc.map .int)), o2, o3, o4, o5, o6, o7] m = .nx [some a, some (.lst ((acc ++ keyB ws).map .int)), p2, p3, p4, p5, p6, p7] m := by
    intro ws
    induction ws with
    | nil => intro acc a o2 o3 o4 o5 o6 o7 _ _; exact ⟨o2, o3, o4, o5, o6, o7, by simp [forG_nil, keyB]⟩
    | cons v ws ih =>
      intro acc a o2 o3 o4 o5 o6 o7 hg hl
      have hv := hg v List.mem_cons_self
      have h1 := kb_len8 hv
      simp only [List.length_cons] at hl
      have ih' := fun a o2 o3 o4 o5 o6 o7 => ih (acc ++ kb v) a o2 o3 o4 o5 o6 o7 (fun w hw => hg w (List.mem_cons_of_mem _ hw)) (by simp only [List.length_append]; omega)
      rw [List.map_cons, forG_cons]
      cases v with
      | n i =>
        obtain ⟨p2, p3, p4, p5, p6, p7, hp⟩ := ih' a (some (.int i)) o3 (some (.int ((i + 549755813888) / 1099511627776))) (some (.lst ((dig5 (i + 549755813888)).map .int))) (some (.int 4)) o7
        refine ⟨p2, p3, p4, p5, p6, p7, ?_⟩
        have k1 : acc.length + 1 ≤ 100000 := by omega
        have k2 : acc.length ≤ 99999 := by omega
        have k3 : acc.length + 1 + 5 ≤ 100000 := by omega
        have k4 : acc.length ≤ 99994 := by omega
        have d2 : (i + 549755813888) / 256 / 256 = (i + 549755813888) / 65536 := by omega
        have d3 : (i + 549755813888) / 65536 / 256 = (i + 549755813888) / 16777216 := by omega
        have d4 : (i + 549755813888) / 16777216 / 256 = (i + 549755813888) / 4294967296 := by omega
        have d5 : (i + 549755813888) / 4294967296 / 256 = (i + 549755813888) / 1099511627776 := by omega
        simp [keyB, kb, dig5] at hp
        simp [mkL_f, mkL_t, wipeP, mulOk, lw_l, lw_c, lv_l, lv_c, lv_x, sv_l, sv_c, sv_x, sv_t, lw_i, lw_s, lw_t, lv_s, lv_t, lv_i, lv_n, add_ii, add_ss, add_tt, add_ll, add_lc, add_cl, add_cc, sub_ii, plus_ii, mul_ii, mul_li, fdv_ii, mod_ii, pow_ii, neg_i, sh_i, sh_s, sh_t, sh_l, sh_n, sh_b, sh_c, eq_nn, ne_nn, eq_ni, ne_ni, eq_in, ne_in, eq_nb, ne_nb, eq_bn, ne_bn, eq_ns, ne_ns, eq_sn, ne_sn, eq_ii, ne_ii, eq_bb, ne_bb, eq_ss, ne_ss, eq_is, ne_is, eq_si, ne_si, eq_bs, ne_bs, eq_sb, ne_sb, isn_n, non_n, isn_i, non_i, isn_b, non_b, isn_s, non_s, isn_t, non_t, isn_l, non_l, isn_c, non_c, isn_x, non_x, tru_n, tru_b, tru_i, tru_t, tru_l, notv_b, ix_t, ix_s, ix_l, ix_x, ix_c, ixl_c, sl_t, sl_s, sl_l, sl_c, rev_l, rev_c, len_t, len_l, len_x, len_s, len_c, list_t, list_l, list_x, list_c, tuple_t, tuple_l, tuple_c, int_i, int_b, abs_i, ord_s, isi_n, isi_b, isi_i, isi_s, isi_t, isi_l, isi_c, kindc, max_ii, min_ii, app_c, ext_c, set_c, sidx_ss, cm_ii, cm_ile, cm_igt, cm_ige, isl_l, isl_c, isl_s, iss_s, iss_l, b_ok, b_st, b_ex, o_ok, o_st, o_ex, c_ok, c_st, c_ex, fin_rt, fin_nx, fin_st, nx_nx, nx_rt, nx_bk, nx_ct, nx_ex, nx_st, e_seq, e_var, e_c, e_op, e_un, e_nil, e_cons, e_call, e_tup, e_lst, e_otup, e_olst, e_gd, e_asg, e_drop, e_ret, e_retN, e_next, e_brk, e_cont, e_ifs, e_setS, e_aug, e_augS, e_tru, e_bl, e_and, e_or, e_not, e_andV, e_orV, e_notV, e_if, e_chain, e_nop, e_part, e_sl, e_iSeq, e_iR1, e_iR2, rngOk_of, rngOk2_of, e_for, e_lc, e_yes, e_mt, e_mt2, e_join, e_put, e_fits, Tg.put, TgL.puts, kp, rngP, List.range_succ, forG_cons, forG_nil, k1, k2, k3, k4, d2, d3, d4, d5, keyB, kb, dig5]
        exact hp
      | t x =>
        obtain ⟨p2, p3, p4, p5, p6, p7, hp⟩ := ih' a (some (.str (strL x))) (some (.str CHS)) o4 o5 o6 o7
        refine ⟨p2, p3, p4, p5, p6, p7, ?_⟩
        have hm : lcG (.name 7) fYes (fOp (oAdd false) (fOp (oAdd false) (fC (.int 32)) (fMt2 isL isS oLIndex oSIndex (fVar 3) (fCons (fVar 7) fNil))) (fCall oInt (fCons (fOp (oCm .gt) (fMt2 isL isS oLIndex oSIndex (fVar 3) (fCons (fVar 7) fNil)) (fC (.int 4))) fNil))) [] [some a, some (.lst (acc.map .int)), some (.str (strL x)), some (.str CHS), o4, o5, o6, none] (x.map fun c => .str ⟨#[c]⟩) m = .ok (x.map fun (c : Nat) => .int (c : Int)) m :=
          lcG_map fun c hc => by
            obtain ⟨k, hk, rfl⟩ := good_chr (hv.2 c hc)
            have := chs_index k hk
            by_cases h4 : k < 5
            · have h5 : ¬ (4 < (k : Int)) := by omega
              have e : chr k = 32 + k := if_pos h4
              rw [e] at this ⊢
              simp [mkL_f, mkL_t, wipeP, mulOk, lw_l, lw_c, lv_l, lv_c, lv_x, sv_l, sv_c, sv_x, sv_t, lw_i, lw_s, lw_t, lv_s, lv_t, lv_i, lv_n, add_ii, add_ss, add_tt, add_ll, add_lc, add_cl, add_cc, sub_ii, plus_ii, mul_ii, mul_li, fdv_ii, mod_ii, pow_ii, neg_i, sh_i, sh_s, sh_t, sh_l, sh_n, sh_b, sh_c, eq_nn, ne_nn, eq_ni, ne_ni, eq_in, ne_in, eq_nb, ne_nb, eq_bn, ne_bn, eq_ns, ne_ns, eq_sn, ne_sn, eq_ii, ne_ii, eq_bb, ne_bb, eq_ss, ne_ss, eq_is, ne_is, eq_si, ne_si, eq_bs, ne_bs, eq_sb, ne_sb, isn_n, non_n, isn_i, non_i, isn_b, non_b, isn_s, non_s, isn_t, non_t, isn_l, non_l, isn_c, non_c, isn_x, non_x, tru_n, tru_b, tru_i, tru_t, tru_l, notv_b, ix_t, ix_s, ix_l, ix_x, ix_c, ixl_c, sl_t, sl_s, sl_l, sl_c, rev_l, rev_c, len_t, len_l, len_x, len_s, len_c, list_t, list_l, list_x, list_c, tuple_t, tuple_l, tuple_c, int_i, int_b, abs_i, ord_s, isi_n, isi_b, isi_i, isi_s, isi_t, isi_l, isi_c, kindc, max_ii, min_ii, app_c, ext_c, set_c, sidx_ss, cm_ii, cm_ile, cm_igt, cm_ige, isl_l, isl_c, isl_s, iss_s, iss_l, b_ok, b_st, b_ex, o_ok, o_st, o_ex, c_ok, c_st, c_ex, fin_rt, fin_nx, fin_st, nx_nx, nx_rt, nx_bk, nx_ct, nx_ex, nx_st, e_seq, e_var, e_c, e_op, e_un, e_nil, e_cons, e_call, e_tup, e_lst, e_otup, e_olst, e_gd, e_asg, e_drop, e_ret, e_retN, e_next, e_brk, e_cont, e_ifs, e_setS, e_aug, e_augS, e_tru, e_bl, e_and, e_or, e_not, e_andV, e_orV, e_notV, e_if, e_chain, e_nop, e_part, e_sl, e_iSeq, e_iR1, e_iR2, rngOk_of, rngOk2_of, e_for, e_lc, e_yes, e_mt, e_mt2, e_join, e_put, e_fits, Tg.put, TgL.puts, this, h5]
            · have h5 : 4 < (k : Int) := by omega
              have e : chr k = 33 + k := if_neg h4
              rw [e] at this ⊢
              simp [mkL_f, mkL_t, wipeP, mulOk, lw_l, lw_c, lv_l, lv_c, lv_x, sv_l, sv_c, sv_x, sv_t, lw_i, lw_s, lw_t, lv_s, lv_t, lv_i, lv_n, add_ii, add_ss, add_tt, add_ll, add_lc, add_cl, add_cc, sub_ii, plus_ii, mul_ii, mul_li, fdv_ii, mod_ii, pow_ii, neg_i, sh_i, sh_s, sh_t, sh_l, sh_n, sh_b, sh_c, eq_nn, ne_nn, eq_ni, ne_ni, eq_in, ne_in, eq_nb, ne_nb, eq_bn, ne_bn, eq_ns, ne_ns, eq_sn, ne_sn, eq_ii, ne_ii, eq_bb, ne_bb, eq_ss, ne_ss, eq_is, ne_is, eq_si, ne_si, eq_bs, ne_bs, eq_sb, ne_sb, isn_n, non_n, isn_i, non_i, isn_b, non_b, isn_s, non_s, isn_t, non_t, isn_l, non_l, isn_c, non_c, isn_x, non_x, tru_n, tru_b, tru_i, tru_t, tru_l, notv_b, ix_t, ix_s, ix_l, ix_x, ix_c, ixl_c, sl_t, sl_s, sl_l, sl_c, rev_l, rev_c, len_t, len_l, len_x, len_s, len_c, list_t, list_l, list_x, list_c, tuple_t, tuple_l, tuple_c, int_i, int_b, abs_i, ord_s, isi_n, isi_b, isi_i, isi_s, isi_t, isi_l, isi_c, kindc, max_ii, min_ii, app_c, ext_c, set_c, sidx_ss, cm_ii, cm_ile, cm_igt, cm_ige, isl_l, isl_c, isl_s, iss_s, iss_l, b_ok, b_st, b_ex, o_ok, o_st, o_ex, c_ok, c_st, c_ex, fin_rt, fin_nx, fin_st, nx_nx, nx_rt, nx_bk, nx_ct, nx_ex, nx_st, e_seq, e_var, e_c, e_op, e_un, e_nil, e_cons, e_call, e_tup, e_lst, e_otup, e_olst, e_gd, e_asg, e_drop, e_ret, e_retN, e_next, e_brk, e_cont, e_ifs, e_setS, e_aug, e_augS, e_tru, e_bl, e_and, e_or, e_not, e_andV, e_orV, e_notV, e_if, e_chain, e_nop, e_part, e_sl, e_iSeq, e_iR1, e_iR2, rngOk_of, rngOk2_of, e_for, e_lc, e_yes, e_mt, e_mt2, e_join, e_put, e_fits, Tg.put, TgL.puts, this, h5]
              omega
        have hx := hv.1
        have k1 : acc.length + 1 ≤ 100000 := by omega
        have k2 : acc.length ≤ 99999 := by omega
        have k5 : x.length ≤ 100000 := by omega
        have k3 : acc.length + 1 + x.length ≤ 100000 := by omega
        have k6 : acc.length + 1 + x.length + 1 ≤ 100000 := by omega
        have k7 : acc.length + (x.length + 1) ≤ 100000 := by omega
        have k8 : acc.length + (x.length + 1) ≤ 99999 := by omega
        simp [keyB, kb, Function.comp_def] at hp
        simp [mkL_f, mkL_t, wipeP, mulOk, lw_l, lw_c, lv_l, lv_c, lv_x, sv_l, sv_c, sv_x, sv_t, lw_i, lw_s, lw_t, lv_s, lv_t, lv_i, lv_n, add_ii, add_ss, add_tt, add_ll, add_lc, add_cl, add_cc, sub_ii, plus_ii, mul_ii, mul_li, fdv_ii, mod_ii, pow_ii, neg_i, sh_i, sh_s, sh_t, sh_l, sh_n, sh_b, sh_c, eq_nn, ne_nn, eq_ni, ne_ni, eq_in, ne_in, eq_nb, ne_nb, eq_bn, ne_bn, eq_ns, ne_ns, eq_sn, ne_sn, eq_ii, ne_ii, eq_bb, ne_bb, eq_ss, ne_ss, eq_is, ne_is, eq_si, ne_si, eq_bs, ne_bs, eq_sb, ne_sb, isn_n, non_n, isn_i, non_i, isn_b, non_b, isn_s, non_s, isn_t, non_t, isn_l, non_l, isn_c, non_c, isn_x, non_x, tru_n, tru_b, tru_i, tru_t, tru_l, notv_b, ix_t, ix_s, ix_l, ix_x, ix_c, ixl_c, sl_t, sl_s, sl_l, sl_c, rev_l, rev_c, len_t, len_l, len_x, len_s, len_c, list_t, list_l, list_x, list_c, tuple_t, tuple_l, tuple_c, int_i, int_b, abs_i, ord_s, isi_n, isi_b, isi_i, isi_s, isi_t, isi_l, isi_c, kindc, max_ii, min_ii, app_c, ext_c, set_c, sidx_ss, cm_ii, cm_ile, cm_igt, cm_ige, isl_l, isl_c, isl_s, iss_s, iss_l, b_ok, b_st, b_ex, o_ok, o_st, o_ex, c_ok, c_st, c_ex, fin_rt, fin_nx, fin_st, nx_nx, nx_rt, nx_bk, nx_ct, nx_ex, nx_st, e_seq, e_var, e_c, e_op, e_un, e_nil, e_cons, e_call, e_tup, e_lst, e_otup, e_olst, e_gd, e_asg, e_drop, e_ret, e_retN, e_next, e_brk, e_cont, e_ifs, e_setS, e_aug, e_augS, e_tru, e_bl, e_and, e_or, e_not, e_andV, e_orV, e_notV, e_if, e_chain, e_nop, e_part, e_sl, e_iSeq, e_iR1, e_iR2, rngOk_of, rngOk2_of, e_for, e_lc, e_yes, e_mt, e_mt2, e_join, e_put, e_fits, Tg.put, TgL.puts, kp, characters_k, strL_cps, hm, k1, k2, k3, k5, k6, k7, k8, keyB, kb, strL_len, Function.comp_def]
        exact hp
  obtain ⟨p2, p3, p4, p5, p6, p7, hp⟩ := loop vs [] (.tup (vs.map kp)) none none none none none none h (by simp; omega)
  simp at hp
  unfold f_bytes fnC fnF fb_bytes
  simp [mkL_f, mkL_t, wipeP, mulOk, lw_l, lw_c, lv_l, lv_c, lv_x, sv_l, sv_c, sv_x, sv_t, lw_i, lw_s, lw_t, lv_s, lv_t, lv_i, lv_n, add_ii, add_ss, add_tt, add_ll, add_lc, add_cl, add_cc, sub_ii, plus_ii, mul_ii, mul_li, fdv_ii, mod_ii, pow_ii, neg_i, sh_i, sh_s, sh_t, sh_l, sh_n, sh_b, sh_c, eq_nn, ne_nn, eq_ni, ne_ni, eq_in, ne_in, eq_nb, ne_nb, eq_bn, ne_bn, eq_ns, ne_ns, eq_sn, ne_sn, eq_ii, ne_ii, eq_bb, ne_bb, eq_ss, ne_ss, eq_is, ne_is, eq_si, ne_si, eq_bs, ne_bs, eq_sb, ne_sb, isn_n, non_n, isn_i, non_i, isn_b, non_b, isn_s, non_s, isn_t, non_t, isn_l, non_l, isn_c, non_c, isn_x, non_x, tru_n, tru_b, tru_i, tru_t, tru_l, notv_b, ix_t, ix_s, ix_l, ix_x, ix_c, ixl_c, sl_t, sl_s, sl_l, sl_c, rev_l, rev_c, len_t, len_l, len_x, len_s, len_c, list_t, list_l, list_x, list_c, tuple_t, tuple_l, tuple_c, int_i, int_b, abs_i, ord_s, isi_n, isi_b, isi_i, isi_s, isi_t, isi_l, isi_c, kindc, max_ii, min_ii, app_c, ext_c, set_c, sidx_ss, cm_ii, cm_ile, cm_igt, cm_ige, isl_l, isl_c, isl_s, iss_s, iss_l, b_ok, b_st, b_ex, o_ok, o_st, o_ex, c_ok, c_st, c_ex, fin_rt, fin_nx, fin_st, nx_nx, nx_rt, nx_bk, nx_ct, nx_ex, nx_st, e_seq, e_var, e_c, e_op, e_un, e_nil, e_cons, e_call, e_tup, e_lst, e_otup, e_olst, e_gd, e_asg, e_drop, e_ret, e_retN, e_next, e_brk, e_cont, e_ifs, e_setS, e_aug, e_augS, e_tru, e_bl, e_and, e_or, e_not, e_andV, e_orV, e_notV, e_if, e_chain, e_nop, e_part, e_sl, e_iSeq, e_iR1, e_iR2, rngOk_of, rngOk2_of, e_for, e_lc, e_yes, e_mt, e_mt2, e_join, e_put, e_fits, Tg.put, TgL.puts, startP, hp, cut_tree0, ip]

end
/-! K5 -/
section
open PySem PySem.Spec PyProof.Rows
/-! ### same -/
inductive Sm : Nat → P → Prop
  | non (n) : Sm n .non
  | int (n i) : Sm n (.int i)
  | bl (n b) : Sm n (.bl b)
  | str (n x) : Sm n (.str x)
  | tup {n xs} : xs.length ≤ 100000 → (∀ x ∈ xs, Sm n x) → Sm (n + 1) (.tup xs)
  | lst {n xs} : xs.length ≤ 100000 → (∀ x ∈ xs, Sm n x) → Sm (n + 1) (.lst xs)
theorem Sm.mono {n : Nat} : ∀ {d : P}, Sm n d → Sm (n + 1) d := by
  induction n with
  | zero => intro d h; cases h <;> constructor
  | succ n ih =>
    intro d h
    cases h with
    | non => exact .non _
    | int => exact .int _ _
    | bl => exact .bl _ _
    | str => exact .str _ _
    | tup h1 h2 => exact .tup h1 fun x hx => ih (h2 x hx)
    | lst h1 h2 => exact .lst h1 fun x hx => ih (h2 x hx)
theorem same_loop {n : Nat} {m : M} {d e : P} (xs : List P) (hs : ∀ x ∈ xs, f_same n [x, x] m = .ok (.bl true) m) (hd : ∀ (i : Nat) x, xs[i]? = some x → oIx d (.int i) m = .ok x m) (he : ∀ (i : Nat) x, xs[i]? = some x → oIx e (.int i) m = .ok x m) :
    ∀ (k j : Nat) (o : Option P), j + k = xs.length → ∃ o', forG (.name 2) (fIfS (fNot (fTru (fCall (gd 2 (f_same n)) (fCons (fOp oIx (fVar 0) (fVar 2)) (fCons (fOp oIx (fVar 1) (fVar 2)) fNil))))) (fRet (fC (.bl false))) fNext) [] ((List.range' j k).map fun (i : Nat) => .int (i : Int)) [some d, some e, o] m = .nx [some d, some e, o'] m
  | 0, j, o, _ => ⟨o, by simp [forG_nil]⟩
  | k + 1, j, o, h => by
    have hj : j < xs.length := by omega
    have hx := List.getElem?_eq_getElem hj
    obtain ⟨o', ho⟩ := same_loop xs hs hd he k (j + 1) (some (.int j)) (by omega)
    refine ⟨o', ?_⟩
    have h1 := hs _ (List.getElem_mem hj)
    rw [List.range'_succ, List.map_cons, forG_cons]
    simp [mkL_f, mkL_t, wipeP, mulOk, lw_l, lw_c, lv_l, lv_c, lv_x, sv_l, sv_c, sv_x, sv_t, lw_i, lw_s, lw_t, lv_s, lv_t, lv_i, lv_n, add_ii, add_ss, add_tt, add_ll, add_lc, add_cl, add_cc, sub_ii, plus_ii, mul_ii, mul_li, fdv_ii, mod_ii, pow_ii, neg_i, sh_i, sh_s, sh_t, sh_l, sh_n, sh_b, sh_c, eq_nn, ne_nn, eq_ni, ne_ni, eq_in, ne_in, eq_nb, ne_nb, eq_bn, ne_bn, eq_ns, ne_ns, eq_sn, ne_sn, eq_ii, ne_ii, eq_bb, ne_bb, eq_ss, ne_ss, eq_is, ne_is, eq_si, ne_si, eq_bs, ne_bs, eq_sb, ne_sb, isn_n, non_n, isn_i, non_i, isn_b, non_b, isn_s, non_s, isn_t, non_t, isn_l, non_l, isn_c, non_c, isn_x, non_x, tru_n, tru_b, tru_i, tru_t, tru_l, notv_b, ix_t, ix_s, ix_l, ix_x, ix_c, ixl_c, sl_t, sl_s, sl_l, sl_c, rev_l, rev_c, len_t, len_l, len_x, len_s, len_c, list_t, list_l, list_x, list_c, tuple_t, tuple_l, tuple_c, int_i, int_b, abs_i, ord_s, isi_n, isi_b, isi_i, isi_s, isi_t, isi_l, isi_c, kindc, max_ii, min_ii, app_c, ext_c, set_c, sidx_ss, cm_ii, cm_ile, cm_igt, cm_ige, isl_l, isl_c, isl_s, iss_s, iss_l, b_ok, b_st, b_ex, o_ok, o_st, o_ex, c_ok, c_st, c_ex, fin_rt, fin_nx, fin_st, nx_nx, nx_rt, nx_bk, nx_ct, nx_ex, nx_st, e_seq, e_var, e_c, e_op, e_un, e_nil, e_cons, e_call, e_tup, e_lst, e_otup, e_olst, e_gd, e_asg, e_drop, e_ret, e_retN, e_next, e_brk, e_cont, e_ifs, e_setS, e_aug, e_augS, e_tru, e_bl, e_and, e_or, e_not, e_andV, e_orV, e_notV, e_if, e_chain, e_nop, e_part, e_sl, e_iSeq, e_iR1, e_iR2, rngOk_of, rngOk2_of, e_for, e_lc, e_yes, e_mt, e_mt2, e_join, e_put, e_fits, Tg.put, TgL.puts, hd j _ hx, he j _ hx, h1]
    exact ho
theorem rngP_eq (n : Nat) : rngP 0 n = (List.range' 0 n).map fun (i : Nat) => .int (i : Int) := by
  unfold rngP
  rw [List.range_eq_range']
  simp
theorem f_same_s (n : Nat) : f_same (n + 1) = fnC true 3 (fb_same (fun _ => f_same n) n) := rfl
theorem same_non (n : Nat) (m : M) : f_same (n + 1) [.non, .non] m = .ok (.bl true) m := by
  rw [f_same_s]; unfold fnC fnF fb_same; simp [mkL_f, mkL_t, wipeP, mulOk, lw_l, lw_c, lv_l, lv_c, lv_x, sv_l, sv_c, sv_x, sv_t, lw_i, lw_s, lw_t, lv_s, lv_t, lv_i, lv_n, add_ii, add_ss, add_tt, add_ll, add_lc, add_cl, add_cc, sub_ii, plus_ii, mul_ii, mul_li, fdv_ii, mod_ii, pow_ii, neg_i, sh_i, sh_s, sh_t, sh_l, sh_n, sh_b, sh_c, eq_nn, ne_nn, eq_ni, ne_ni, eq_in, ne_in, eq_nb, ne_nb, eq_bn, ne_bn, eq_ns, ne_ns, eq_sn, ne_sn, eq_ii, ne_ii, eq_bb, ne_bb, eq_ss, ne_ss, eq_is, ne_is, eq_si, ne_si, eq_bs, ne_bs, eq_sb, ne_sb, isn_n, non_n, isn_i, non_i, isn_b, non_b, isn_s, non_s, isn_t, non_t, isn_l, non_l, isn_c, non_c, isn_x, non_x, tru_n, tru_b, tru_i, tru_t, tru_l, notv_b, ix_t, ix_s, ix_l, ix_x, ix_c, ixl_c, sl_t, sl_s, sl_l, sl_c, rev_l, rev_c, len_t, len_l, len_x, len_s, len_c, list_t, list_l, list_x, list_c, tuple_t, tuple_l, tuple_c, int_i, int_b, abs_i, ord_s, isi_n, isi_b, isi_i, isi_s, isi_t, isi_l, isi_c, kindc, max_ii, min_ii, app_c, ext_c, set_c, sidx_ss, cm_ii, cm_ile, cm_igt, cm_ige, isl_l, isl_c, isl_s, iss_s, iss_l, b_ok, b_st, b_ex, o_ok, o_st, o_ex, c_ok, c_st, c_ex, fin_rt, fin_nx, fin_st, nx_nx, nx_rt, nx_bk, nx_ct, nx_ex, nx_st, e_seq, e_var, e_c, e_op, e_un, e_nil, e_cons, e_call, e_tup, e_lst, e_otup, e_olst, e_gd, e_asg, e_drop, e_ret, e_retN, e_next, e_brk, e_cont, e_ifs, e_setS, e_aug, e_augS, e_tru, e_bl, e_and, e_or, e_not, e_andV, e_orV, e_notV, e_if, e_chain, e_nop, e_part, e_sl, e_iSeq, e_iR1, e_iR2, rngOk_of, rngOk2_of, e_for, e_lc, e_yes, e_mt, e_mt2, e_join, e_put, e_fits, Tg.put, TgL.puts, startP, cut_tree0]
theorem same_int (n : Nat) (m : M) (i : Int) : f_same (n + 1) [.int i, .int i] m = .ok (.bl true) m := by
  rw [f_same_s]; unfold fnC fnF fb_same; simp [mkL_f, mkL_t, wipeP, mulOk, lw_l, lw_c, lv_l, lv_c, lv_x, sv_l, sv_c, sv_x, sv_t, lw_i, lw_s, lw_t, lv_s, lv_t, lv_i, lv_n, add_ii, add_ss, add_tt, add_ll, add_lc, add_cl, add_cc, sub_ii, plus_ii, mul_ii, mul_li, fdv_ii, mod_ii, pow_ii, neg_i, sh_i, sh_s, sh_t, sh_l, sh_n, sh_b, sh_c, eq_nn, ne_nn, eq_ni, ne_ni, eq_in, ne_in, eq_nb, ne_nb, eq_bn, ne_bn, eq_ns, ne_ns, eq_sn, ne_sn, eq_ii, ne_ii, eq_bb, ne_bb, eq_ss, ne_ss, eq_is, ne_is, eq_si, ne_si, eq_bs, ne_bs, eq_sb, ne_sb, isn_n, non_n, isn_i, non_i, isn_b, non_b, isn_s, non_s, isn_t, non_t, isn_l, non_l, isn_c, non_c, isn_x, non_x, tru_n, tru_b, tru_i, tru_t, tru_l, notv_b, ix_t, ix_s, ix_l, ix_x, ix_c, ixl_c, sl_t, sl_s, sl_l, sl_c, rev_l, rev_c, len_t, len_l, len_x, len_s, len_c, list_t, list_l, list_x, list_c, tuple_t, tuple_l, tuple_c, int_i, int_b, abs_i, ord_s, isi_n, isi_b, isi_i, isi_s, isi_t, isi_l, isi_c, kindc, max_ii, min_ii, app_c, ext_c, set_c, sidx_ss, cm_ii, cm_ile, cm_igt, cm_ige, isl_l, isl_c, isl_s, iss_s, iss_l, b_ok, b_st, b_ex, o_ok, o_st, o_ex, c_ok, c_st, c_ex, fin_rt, fin_nx, fin_st, nx_nx, nx_rt, nx_bk, nx_ct, nx_ex, nx_st, e_seq, e_var, e_c, e_op, e_un, e_nil, e_cons, e_call, e_tup, e_lst, e_otup, e_olst, e_gd, e_asg, e_drop, e_ret, e_retN, e_next, e_brk, e_cont, e_ifs, e_setS, e_aug, e_augS, e_tru, e_bl, e_and, e_or, e_not, e_andV, e_orV, e_notV, e_if, e_chain, e_nop, e_part, e_sl, e_iSeq, e_iR1, e_iR2, rngOk_of, rngOk2_of, e_for, e_lc, e_yes, e_mt, e_mt2, e_join, e_put, e_fits, Tg.put, TgL.puts, startP, cut_tree0]
theorem same_bl (n : Nat) (m : M) (i : Bool) : f_same (n + 1) [.bl i, .bl i] m = .ok (.bl true) m := by
  rw [f_same_s]; unfold fnC fnF fb_same; simp [mkL_f, mkL_t, wipeP, mulOk, lw_l, lw_c, lv_l, lv_c, lv_x, sv_l, sv_c, sv_x, sv_t, lw_i, lw_s, lw_t, lv_s, lv_t, lv_i, lv_n, add_ii, add_ss, add_tt, add_ll, add_lc, add_cl, add_cc, sub_ii, plus_ii, mul_ii, mul_li, fdv_ii, mod_ii, pow_ii, neg_i, sh_i, sh_s, sh_t, sh_l, sh_n, sh_b, sh_c, eq_nn, ne_nn, eq_ni, ne_ni, eq_in, ne_in, eq_nb, ne_nb, eq_bn, ne_bn, eq_ns, ne_ns, eq_sn, ne_sn, eq_ii, ne_ii, eq_bb, ne_bb, eq_ss, ne_ss, eq_is, ne_is, eq_si, ne_si, eq_bs, ne_bs, eq_sb, ne_sb, isn_n, non_n, isn_i, non_i, isn_b, non_b, isn_s, non_s, isn_t, non_t, isn_l, non_l, isn_c, non_c, isn_x, non_x, tru_n, tru_b, tru_i, tru_t, tru_l, notv_b, ix_t, ix_s, ix_l, ix_x, ix_c, ixl_c, sl_t, sl_s, sl_l, sl_c, rev_l, rev_c, len_t, len_l, len_x, len_s, len_c, list_t, list_l, list_x, list_c, tuple_t, tuple_l, tuple_c, int_i, int_b, abs_i, ord_s, isi_n, isi_b, isi_i, isi_s, isi_t, isi_l, isi_c, kindc, max_ii, min_ii, app_c, ext_c, set_c, sidx_ss, cm_ii, cm_ile, cm_igt, cm_ige, isl_l, isl_c, isl_s, iss_s, iss_l, b_ok, b_st, b_ex, o_ok, o_st, o_ex, c_ok, c_st, c_ex, fin_rt, fin_nx, fin_st, nx_nx, nx_rt, nx_bk, nx_ct, nx_ex, nx_st, e_seq, e_var, e_c, e_op, e_un, e_nil, e_cons, e_call, e_tup, e_lst, e_otup, e_olst, e_gd, e_asg, e_drop, e_ret, e_retN, e_next, e_brk, e_cont, e_ifs, e_setS, e_aug, e_augS, e_tru, e_bl, e_and, e_or, e_not, e_andV, e_orV, e_notV, e_if, e_chain, e_nop, e_part, e_sl, e_iSeq, e_iR1, e_iR2, rngOk_of, rngOk2_of, e_for, e_lc, e_yes, e_mt, e_mt2, e_join, e_put, e_fits, Tg.put, TgL.puts, startP, cut_tree0]
theorem same_str (n : Nat) (m : M) (i : Str) : f_same (n + 1) [.str i, .str i] m = .ok (.bl true) m := by
  rw [f_same_s]; unfold fnC fnF fb_same; simp [mkL_f, mkL_t, wipeP, mulOk, lw_l, lw_c, lv_l, lv_c, lv_x, sv_l, sv_c, sv_x, sv_t, lw_i, lw_s, lw_t, lv_s, lv_t, lv_i, lv_n, add_ii, add_ss, add_tt, add_ll, add_lc, add_cl, add_cc, sub_ii, plus_ii, mul_ii, mul_li, fdv_ii, mod_ii, pow_ii, neg_i, sh_i, sh_s, sh_t, sh_l, sh_n, sh_b, sh_c, eq_nn, ne_nn, eq_ni, ne_ni, eq_in, ne_in, eq_nb, ne_nb, eq_bn, ne_bn, eq_ns, ne_ns, eq_sn, ne_sn, eq_ii, ne_ii, eq_bb, ne_bb, eq_ss, ne_ss, eq_is, ne_is, eq_si, ne_si, eq_bs, ne_bs, eq_sb, ne_sb, isn_n, non_n, isn_i, non_i, isn_b, non_b, isn_s, non_s, isn_t, non_t, isn_l, non_l, isn_c, non_c, isn_x, non_x, tru_n, tru_b, tru_i, tru_t, tru_l, notv_b, ix_t, ix_s, ix_l, ix_x, ix_c, ixl_c, sl_t, sl_s, sl_l, sl_c, rev_l, rev_c, len_t, len_l, len_x, len_s, len_c, list_t, list_l, list_x, list_c, tuple_t, tuple_l, tuple_c, int_i, int_b, abs_i, ord_s, isi_n, isi_b, isi_i, isi_s, isi_t, isi_l, isi_c, kindc, max_ii, min_ii, app_c, ext_c, set_c, sidx_ss, cm_ii, cm_ile, cm_igt, cm_ige, isl_l, isl_c, isl_s, iss_s, iss_l, b_ok, b_st, b_ex, o_ok, o_st, o_ex, c_ok, c_st, c_ex, fin_rt, fin_nx, fin_st, nx_nx, nx_rt, nx_bk, nx_ct, nx_ex, nx_st, e_seq, e_var, e_c, e_op, e_un, e_nil, e_cons, e_call, e_tup, e_lst, e_otup, e_olst, e_gd, e_asg, e_drop, e_ret, e_retN, e_next, e_brk, e_cont, e_ifs, e_setS, e_aug, e_augS, e_tru, e_bl, e_and, e_or, e_not, e_andV, e_orV, e_notV, e_if, e_chain, e_nop, e_part, e_sl, e_iSeq, e_iR1, e_iR2, rngOk_of, rngOk2_of, e_for, e_lc, e_yes, e_mt, e_mt2, e_join, e_put, e_fits, Tg.put, TgL.puts, startP, cut_tree0]
theorem same_tup (n : Nat) (m : M) (xs : List P) (h1 : xs.length ≤ 100000) (hs : ∀ x ∈ xs, f_same n [x, x] m = .ok (.bl true) m) : f_same (n + 1) [.tup xs, .tup xs] m = .ok (.bl true) m := by
  obtain ⟨o', ho⟩ := same_loop (n := n) (m := m) (d := .tup xs) (e := .tup xs) xs hs (fun i x hx => by simp [mkL_f, mkL_t, wipeP, mulOk, lw_l, lw_c, lv_l, lv_c, lv_x, sv_l, sv_c, sv_x, sv_t, lw_i, lw_s, lw_t, lv_s, lv_t, lv_i, lv_n, add_ii, add_ss, add_tt, add_ll, add_lc, add_cl, add_cc, sub_ii, plus_ii, mul_ii, mul_li, fdv_ii, mod_ii, pow_ii, neg_i, sh_i, sh_s, sh_t, sh_l, sh_n, sh_b, sh_c, eq_nn, ne_nn, eq_ni, ne_ni, eq_in, ne_in, eq_nb, ne_nb, eq_bn, ne_bn, eq_ns, ne_ns, eq_sn, ne_sn, eq_ii, ne_ii, eq_bb, ne_bb, eq_ss, ne_ss, eq_is, ne_is, eq_si, ne_si, eq_bs, ne_bs, eq_sb, ne_sb, isn_n, non_n, isn_i, non_i, isn_b, non_b, isn_s, non_s, isn_t, non_t, isn_l, non_l, isn_c, non_c, isn_x, non_x, tru_n, tru_b, tru_i, tru_t, tru_l, notv_b, ix_t, ix_s, ix_l, ix_x, ix_c, ixl_c, sl_t, sl_s, sl_l, sl_c, rev_l, rev_c, len_t, len_l, len_x, len_s, len_c, list_t, list_l, list_x, list_c, tuple_t, tuple_l, tuple_c, int_i, int_b, abs_i, ord_s, isi_n, isi_b, isi_i, isi_s, isi_t, isi_l, isi_c, kindc, max_ii, min_ii, app_c, ext_c, set_c, sidx_ss, cm_ii, cm_ile, cm_igt, cm_ige, isl_l, isl_c, isl_s, iss_s, iss_l, b_ok, b_st, b_ex, o_ok, o_st, o_ex, c_ok, c_st, c_ex, fin_rt, fin_nx, fin_st, nx_nx, nx_rt, nx_bk, nx_ct, nx_ex, nx_st, e_seq, e_var, e_c, e_op, e_un, e_nil, e_cons, e_call, e_tup, e_lst, e_otup, e_olst, e_gd, e_asg, e_drop, e_ret, e_retN, e_next, e_brk, e_cont, e_ifs, e_setS, e_aug, e_augS, e_tru, e_bl, e_and, e_or, e_not, e_andV, e_orV, e_notV, e_if, e_chain, e_nop, e_part, e_sl, e_iSeq, e_iR1, e_iR2, rngOk_of, rngOk2_of, e_for, e_lc, e_yes, e_mt, e_mt2, e_join, e_put, e_fits, Tg.put, TgL.puts, atI_nat', hx]) (fun i x hx => by simp [mkL_f, mkL_t, wipeP, mulOk, lw_l, lw_c, lv_l, lv_c, lv_x, sv_l, sv_c, sv_x, sv_t, lw_i, lw_s, lw_t, lv_s, lv_t, lv_i, lv_n, add_ii, add_ss, add_tt, add_ll, add_lc, add_cl, add_cc, sub_ii, plus_ii, mul_ii, mul_li, fdv_ii, mod_ii, pow_ii, neg_i, sh_i, sh_s, sh_t, sh_l, sh_n, sh_b, sh_c, eq_nn, ne_nn, eq_ni, ne_ni, eq_in, ne_in, eq_nb, ne_nb, eq_bn, ne_bn, eq_ns, ne_ns, eq_sn, ne_sn, eq_ii, ne_ii, eq_bb, ne_bb, eq_ss, ne_ss, eq_is, ne_is, eq_si, ne_si, eq_bs, ne_bs, eq_sb, ne_sb, isn_n, non_n, isn_i, non_i, isn_b, non_b, isn_s, non_s, isn_t, non_t, isn_l, non_l, isn_c, non_c, isn_x, non_x, tru_n, tru_b, tru_i, tru_t, tru_l, notv_b, ix_t, ix_s, ix_l, ix_x, ix_c, ixl_c, sl_t, sl_s, sl_l, sl_c, rev_l, rev_c, len_t, len_l, len_x, len_s, len_c, list_t, list_l, list_x, list_c, tuple_t, tuple_l, tuple_c, int_i, int_b, abs_i, ord_s, isi_n, isi_b, isi_i, isi_s, isi_t, isi_l, isi_c, kindc, max_ii, min_ii, app_c, ext_c, set_c, sidx_ss, cm_ii, cm_ile, cm_igt, cm_ige, isl_l, isl_c, isl_s, iss_s, iss_l, b_ok, b_st, b_ex, o_ok, o_st, o_ex, c_ok, c_st, c_ex, fin_rt, fin_nx, fin_st, nx_nx, nx_rt, nx_bk, nx_ct, nx_ex, nx_st, e_seq, e_var, e_c, e_op, e_un, e_nil, e_cons, e_call, e_tup, e_lst, e_otup, e_olst, e_gd, e_asg, e_drop, e_ret, e_retN, e_next, e_brk, e_cont, e_ifs, e_setS, e_aug, e_augS, e_tru, e_bl, e_and, e_or, e_not, e_andV, e_orV, e_notV, e_if, e_chain, e_nop, e_part, e_sl, e_iSeq, e_iR1, e_iR2, rngOk_of, rngOk2_of, e_for, e_lc, e_yes, e_mt, e_mt2, e_join, e_put, e_fits, Tg.put, TgL.puts, atI_nat', hx]) xs.length 0 none (by omega)
  have k1 : (xs.length : Int) ≤ 100000 := by omega
  rw [f_same_s]; unfold fnC fnF fb_same
  simp [mkL_f, mkL_t, wipeP, mulOk, lw_l, lw_c, lv_l, lv_c, lv_x, sv_l, sv_c, sv_x, sv_t, lw_i, lw_s, lw_t, lv_s, lv_t, lv_i, lv_n, add_ii, add_ss, add_tt, add_ll, add_lc, add_cl, add_cc, sub_ii, plus_ii, mul_ii, mul_li, fdv_ii, mod_ii, pow_ii, neg_i, sh_i, sh_s, sh_t, sh_l, sh_n, sh_b, sh_c, eq_nn, ne_nn, eq_ni, ne_ni, eq_in, ne_in, eq_nb, ne_nb, eq_bn, ne_bn, eq_ns, ne_ns, eq_sn, ne_sn, eq_ii, ne_ii, eq_bb, ne_bb, eq_ss, ne_ss, eq_is, ne_is, eq_si, ne_si, eq_bs, ne_bs, eq_sb, ne_sb, isn_n, non_n, isn_i, non_i, isn_b, non_b, isn_s, non_s, isn_t, non_t, isn_l, non_l, isn_c, non_c, isn_x, non_x, tru_n, tru_b, tru_i, tru_t, tru_l, notv_b, ix_t, ix_s, ix_l, ix_x, ix_c, ixl_c, sl_t, sl_s, sl_l, sl_c, rev_l, rev_c, len_t, len_l, len_x, len_s, len_c, list_t, list_l, list_x, list_c, tuple_t, tuple_l, tuple_c, int_i, int_b, abs_i, ord_s, isi_n, isi_b, isi_i, isi_s, isi_t, isi_l, isi_c, kindc, max_ii, min_ii, app_c, ext_c, set_c, sidx_ss, cm_ii, cm_ile, cm_igt, cm_ige, isl_l, isl_c, isl_s, iss_s, iss_l, b_ok, b_st, b_ex, o_ok, o_st, o_ex, c_ok, c_st, c_ex, fin_rt, fin_nx, fin_st, nx_nx, nx_rt, nx_bk, nx_ct, nx_ex, nx_st, e_seq, e_var, e_c, e_op, e_un, e_nil, e_cons, e_call, e_tup, e_lst, e_otup, e_olst, e_gd, e_asg, e_drop, e_ret, e_retN, e_next, e_brk, e_cont, e_ifs, e_setS, e_aug, e_augS, e_tru, e_bl, e_and, e_or, e_not, e_andV, e_orV, e_notV, e_if, e_chain, e_nop, e_part, e_sl, e_iSeq, e_iR1, e_iR2, rngOk_of, rngOk2_of, e_for, e_lc, e_yes, e_mt, e_mt2, e_join, e_put, e_fits, Tg.put, TgL.puts, startP, h1, k1, rngP_eq, ho, cut_tree0]
theorem same_lst (n : Nat) (m : M) (xs : List P) (h1 : xs.length ≤ 100000) (hs : ∀ x ∈ xs, f_same n [x, x] m = .ok (.bl true) m) : f_same (n + 1) [.lst xs, .lst xs] m = .ok (.bl true) m := by
  obtain ⟨o', ho⟩ := same_loop (n := n) (m := m) (d := .lst xs) (e := .lst xs) xs hs (fun i x hx => by simp [mkL_f, mkL_t, wipeP, mulOk, lw_l, lw_c, lv_l, lv_c, lv_x, sv_l, sv_c, sv_x, sv_t, lw_i, lw_s, lw_t, lv_s, lv_t, lv_i, lv_n, add_ii, add_ss, add_tt, add_ll, add_lc, add_cl, add_cc, sub_ii, plus_ii, mul_ii, mul_li, fdv_ii, mod_ii, pow_ii, neg_i, sh_i, sh_s, sh_t, sh_l, sh_n, sh_b, sh_c, eq_nn, ne_nn, eq_ni, ne_ni, eq_in, ne_in, eq_nb, ne_nb, eq_bn, ne_bn, eq_ns, ne_ns, eq_sn, ne_sn, eq_ii, ne_ii, eq_bb, ne_bb, eq_ss, ne_ss, eq_is, ne_is, eq_si, ne_si, eq_bs, ne_bs, eq_sb, ne_sb, isn_n, non_n, isn_i, non_i, isn_b, non_b, isn_s, non_s, isn_t, non_t, isn_l, non_l, isn_c, non_c, isn_x, non_x, tru_n, tru_b, tru_i, tru_t, tru_l, notv_b, ix_t, ix_s, ix_l, ix_x, ix_c, ixl_c, sl_t, sl_s, sl_l, sl_c, rev_l, rev_c, len_t, len_l, len_x, len_s, len_c, list_t, list_l, list_x, list_c, tuple_t, tuple_l, tuple_c, int_i, int_b, abs_i, ord_s, isi_n, isi_b, isi_i, isi_s, isi_t, isi_l, isi_c, kindc, max_ii, min_ii, app_c, ext_c, set_c, sidx_ss, cm_ii, cm_ile, cm_igt, cm_ige, isl_l, isl_c, isl_s, iss_s, iss_l, b_ok, b_st, b_ex, o_ok, o_st, o_ex, c_ok, c_st, c_ex, fin_rt, fin_nx, fin_st, nx_nx, nx_rt, nx_bk, nx_ct, nx_ex, nx_st, e_seq, e_var, e_c, e_op, e_un, e_nil, e_cons, e_call, e_tup, e_lst, e_otup, e_olst, e_gd, e_asg, e_drop, e_ret, e_retN, e_next, e_brk, e_cont, e_ifs, e_setS, e_aug, e_augS, e_tru, e_bl, e_and, e_or, e_not, e_andV, e_orV, e_notV, e_if, e_chain, e_nop, e_part, e_sl, e_iSeq, e_iR1, e_iR2, rngOk_of, rngOk2_of, e_for, e_lc, e_yes, e_mt, e_mt2, e_join, e_put, e_fits, Tg.put, TgL.puts, atI_nat', hx]) (fun i x hx => by simp [mkL_f, mkL_t, wipeP, mulOk, lw_l, lw_c, lv_l, lv_c, lv_x, sv_l, sv_c, sv_x, sv_t, lw_i, lw_s, lw_t, lv_s, lv_t, lv_i, lv_n, add_ii, add_ss, add_tt, add_ll, add_lc, add_cl, add_cc, sub_ii, plus_ii, mul_ii, mul_li, fdv_ii, mod_ii, pow_ii, neg_i, sh_i, sh_s, sh_t, sh_l, sh_n, sh_b, sh_c, eq_nn, ne_nn, eq_ni, ne_ni, eq_in, ne_in, eq_nb, ne_nb, eq_bn, ne_bn, eq_ns, ne_ns, eq_sn, ne_sn, eq_ii, ne_ii, eq_bb, ne_bb, eq_ss, ne_ss, eq_is, ne_is, eq_si, ne_si, eq_bs, ne_bs, eq_sb, ne_sb, isn_n, non_n, isn_i, non_i, isn_b, non_b, isn_s, non_s, isn_t, non_t, isn_l, non_l, isn_c, non_c, isn_x, non_x, tru_n, tru_b, tru_i, tru_t, tru_l, notv_b, ix_t, ix_s, ix_l, ix_x, ix_c, ixl_c, sl_t, sl_s, sl_l, sl_c, rev_l, rev_c, len_t, len_l, len_x, len_s, len_c, list_t, list_l, list_x, list_c, tuple_t, tuple_l, tuple_c, int_i, int_b, abs_i, ord_s, isi_n, isi_b, isi_i, isi_s, isi_t, isi_l, isi_c, kindc, max_ii, min_ii, app_c, ext_c, set_c, sidx_ss, cm_ii, cm_ile, cm_igt, cm_ige, isl_l, isl_c, isl_s, iss_s, iss_l, b_ok, b_st, b_ex, o_ok, o_st, o_ex, c_ok, c_st, c_ex, fin_rt, fin_nx, fin_st, nx_nx, nx_rt, nx_bk, nx_ct, nx_ex, nx_st, e_seq, e_var, e_c, e_op, e_un, e_nil, e_cons, e_call, e_tup, e_lst, e_otup, e_olst, e_gd, e_asg, e_drop, e_ret, e_retN, e_next, e_brk, e_cont, e_ifs, e_setS, e_aug, e_augS, e_tru, e_bl, e_and, e_or, e_not, e_andV, e_orV, e_notV, e_if, e_chain, e_nop, e_part, e_sl, e_iSeq, e_iR1, e_iR2, rngOk_of, rngOk2_of, e_for, e_lc, e_yes, e_mt, e_mt2, e_join, e_put, e_fits, Tg.put, TgL.puts, atI_nat', hx]) xs.length 0 none (by omega)
  have k1 : (xs.length : Int) ≤ 100000 := by omega
  rw [f_same_s]; unfold fnC fnF fb_same
  simp [mkL_f, mkL_t, wipeP, mulOk, lw_l, lw_c, lv_l, lv_c, lv_x, sv_l, sv_c, sv_x, sv_t, lw_i, lw_s, lw_t, lv_s, lv_t, lv_i, lv_n, add_ii, add_ss, add_tt, add_ll, add_lc, add_cl, add_cc, sub_ii, plus_ii, mul_ii, mul_li, fdv_ii, mod_ii, pow_ii, neg_i, sh_i, sh_s, sh_t, sh_l, sh_n, sh_b, sh_c, eq_nn, ne_nn, eq_ni, ne_ni, eq_in, ne_in, eq_nb, ne_nb, eq_bn, ne_bn, eq_ns, ne_ns, eq_sn, ne_sn, eq_ii, ne_ii, eq_bb, ne_bb, eq_ss, ne_ss, eq_is, ne_is, eq_si, ne_si, eq_bs, ne_bs, eq_sb, ne_sb, isn_n, non_n, isn_i, non_i, isn_b, non_b, isn_s, non_s, isn_t, non_t, isn_l, non_l, isn_c, non_c, isn_x, non_x, tru_n, tru_b, tru_i, tru_t, tru_l, notv_b, ix_t, ix_s, ix_l, ix_x, ix_c, ixl_c, sl_t, sl_s, sl_l, sl_c, rev_l, rev_c, len_t, len_l, len_x, len_s, len_c, list_t, list_l, list_x, list_c, tuple_t, tuple_l, tuple_c, int_i, int_b, abs_i, ord_s, isi_n, isi_b, isi_i, isi_s, isi_t, isi_l, isi_c, kindc, max_ii, min_ii, app_c, ext_c, set_c, sidx_ss, cm_ii, cm_ile, cm_igt, cm_ige, isl_l, isl_c, isl_s, iss_s, iss_l, b_ok, b_st, b_ex, o_ok, o_st, o_ex, c_ok, c_st, c_ex, fin_rt, fin_nx, fin_st, nx_nx, nx_rt, nx_bk, nx_ct, nx_ex, nx_st, e_seq, e_var, e_c, e_op, e_un, e_nil, e_cons, e_call, e_tup, e_lst, e_otup, e_olst, e_gd, e_asg, e_drop, e_ret, e_retN, e_next, e_brk, e_cont, e_ifs, e_setS, e_aug, e_augS, e_tru, e_bl, e_and, e_or, e_not, e_andV, e_orV, e_notV, e_if, e_chain, e_nop, e_part, e_sl, e_iSeq, e_iR1, e_iR2, rngOk_of, rngOk2_of, e_for, e_lc, e_yes, e_mt, e_mt2, e_join, e_put, e_fits, Tg.put, TgL.puts, startP, h1, k1, rngP_eq, ho, cut_tree0]
theorem same_refl : ∀ (n : Nat) {d : P} (m : M), Sm n d → f_same (n + 1) [d, d] m = .ok (.bl true) m
  | n, _, m, .non _ => same_non n m
  | n, _, m, .int _ i => same_int n m i
  | n, _, m, .bl _ i => same_bl n m i
  | n, _, m, .str _ i => same_str n m i
  | n + 1, _, m, .tup h1 h2 => same_tup (n + 1) m _ h1 fun x hx => same_refl n m (h2 x hx)
  | n + 1, _, m, .lst h1 h2 => same_lst (n + 1) m _ h1 fun x hx => same_refl n m (h2 x hx)
theorem Sm.ip {n : Nat} {k : List Int} (h : k.length ≤ 100000) : Sm (n + 1) (ip k) := .tup (by simpa using h) fun x hx => by
  obtain ⟨i, _, rfl⟩ := List.mem_map.mp hx
  exact .int _ _
theorem Sm.kp (n : Nat) (v : Kv) : Sm n (kp v) := by cases v <;> constructor
theorem Sm.row {n : Nat} {vs : List Kv} (h : vs.length ≤ 100000) : Sm (n + 1) (.tup (vs.map L2.Q.kp)) := .tup (by simpa using h) fun x hx => by
  obtain ⟨v, _, rfl⟩ := List.mem_map.mp hx
  exact .kp _ _
/-! ### orders -/
theorem lexI_tri : ∀ {a b : List Int}, a ≠ b → lexI b a = !lexI a b
  | [], [], h => absurd rfl h
  | [], _ :: _, _ => rfl
  | _ :: _, [], _ => rfl
  | x :: a, y :: b, h => by
    simp only [lexI]
    by_cases e : x = y
    · subst e
      rw [if_pos rfl, if_pos rfl]
      exact lexI_tri fun q => h (by rw [q])
    · rw [if_neg e, if_neg (fun q => e q.symm), Bool.eq_iff_iff]
      simp
      omega
theorem row_tri {a b : List Kv} (ha : ∀ v ∈ a, v.Good) (hb : ∀ v ∈ b, v.Good) (h : a ≠ b) : rowLt b a = !rowLt a b := by
  rw [← keyB_lt a b ha hb, ← keyB_lt b a hb ha]
  exact lexI_tri fun q => h (keyB_inj a b ha hb q)
theorem rowLt_self (a : List Kv) : rowLt a a = false := by
  induction a with
  | nil => rfl
  | cons v a ih => simp [rowLt, ih]
def sgn (a b : List Kv) : Int := if a = b then 0 else if rowLt a b = true then -1 else 1
theorem lexN_lt : ∀ x y : List Nat, decide (x < y) = lexN x y
  | [], [] => by decide
  | [], y :: b => by simp [lexN]
  | x :: a, [] => by simp [lexN]
  | x :: a, y :: b => by
    have ih := lexN_lt a b
    simp only [lexN]
    by_cases e : x = y
    · subst e
      rw [if_pos rfl, ← ih]
      simp
    · rw [if_neg e, decide_eq_decide]
      constructor
      · intro h
        rcases List.cons_lt_cons_iff.mp h with q | q
        · exact q
        · exact absurd q.1 e
      · intro h
        exact List.cons_lt_cons_iff.mpr (.inl h)
def Kv.d (v : Kv) : PyData := match v with
  | .n i => .int i
  | .t x => .str (strL x)
theorem strL_inj {x y : List Nat} : strL x = strL y ↔ x = y := by
  constructor
  · intro h
    have := congrArg (fun s : Str => s.cps.toList) h
    simpa [strL] using this
  · rintro rfl; rfl
theorem kv_eqv (v w : Kv) : PyData.eqv v.d w.d = decide (v = w) := by
  cases v <;> cases w <;> rw [Bool.eq_iff_iff] <;> simp [Kv.d, PyData.eqv, strL_inj]
theorem kp_data (v : Kv) : (kp v).data = some v.d := by cases v <;> simp [kp, P.data, Kv.d]
theorem kv_cmp (o : Cm) (k : Nat) (v w : Kv) (h : v.kind = w.kind) : ∃ b, cmpO o k v.d w.d = some b ∧ (o = .lt → b = v.lt w) ∧ (o = .gt → b = w.lt v) := by
  cases v <;> cases w <;> simp [Kv.kind] at h
  · refine ⟨_, by unfold cmpO Kv.d; rfl, fun e => ?_, fun e => ?_⟩ <;> subst e <;> rfl
  · refine ⟨_, by unfold cmpO Kv.d; rfl, fun e => ?_, fun e => ?_⟩ <;> subst e <;> (simp only [Cm.str, strL_cps]; exact lexN_lt _ _)
def Kv.rd (v : Kv) : PyData := .tuple [.int v.kind, v.d]
theorem kpr_data (v : Kv) : (kpr v).data = some v.rd := by simp [kpr, P.data, P.datas, kp_data, Kv.rd]
theorem datas_kpr : ∀ vs : List Kv, P.datas (vs.map kpr) = some (vs.map Kv.rd)
  | [] => by simp [P.datas]
  | v :: vs => by simp [P.datas, kpr_data, datas_kpr vs]
theorem datas_kp : ∀ vs : List Kv, P.datas (vs.map kp) = some (vs.map Kv.d)
  | [] => by simp [P.datas]
  | v :: vs => by simp [P.datas, kp_data, datas_kp vs]
theorem kind_eqv (v w : Kv) (h : v.kind ≠ w.kind) : v ≠ w := fun e => h (by rw [e])
theorem rd_eqv (v w : Kv) : PyData.eqv v.rd w.rd = decide (v = w) := by
  simp only [Kv.rd, PyData.eqv, PyData.eqvAll, kv_eqv]
  by_cases e : v = w
  · subst e; simp
  · simp [e]
theorem rd_cmp (o : Cm) (k : Nat) (v w : Kv) (h : v ≠ w) : ∃ b, cmpO o (k + 1) v.rd w.rd = some b ∧ (o = .lt → b = v.lt w) ∧ (o = .gt → b = w.lt v) := by
  unfold cmpO Kv.rd
  simp only [cmpL, PyData.eqv, kv_eqv, decide_eq_false h, Bool.false_eq_true, if_false]
  by_cases e : v.kind = w.kind
  · rw [if_pos (by simpa using e)]
    exact kv_cmp o k v w e
  · rw [if_neg (by simpa using e)]
    refine ⟨o.int v.kind w.kind, by unfold cmpO; rfl, fun q => ?_, fun q => ?_⟩ <;> subst q <;> cases v <;> cases w <;> simp [Kv.kind, Cm.int, Kv.lt] at e ⊢
theorem cmpL_rows (o : Cm) (k : Nat) : ∀ a b : List Kv, ∃ r, cmpL o (cmpO o (k + 1)) (a.map Kv.rd) (b.map Kv.rd) = some r ∧ (o = .lt → r = rowLt a b) ∧ (o = .gt → r = rowLt b a)
  | [], [] => ⟨_, rfl, fun e => by subst e; rfl, fun e => by subst e; rfl⟩
  | [], y :: b => ⟨_, rfl, fun e => by subst e; rfl, fun e => by subst e; rfl⟩
  | x :: a, [] => ⟨_, rfl, fun e => by subst e; rfl, fun e => by subst e; rfl⟩
  | x :: a, y :: b => by
    simp only [List.map_cons, cmpL, rd_eqv, decide_eq_true_eq, rowLt]
    by_cases e : x = y
    · subst e
      simp only [if_true]
      exact cmpL_rows o k a b
    · obtain ⟨r, h1, h2, h3⟩ := rd_cmp o k x y e
      refine ⟨r, by rw [if_neg e]; exact h1, fun q => by rw [if_neg e]; exact h2 q, fun q => by rw [if_neg (fun z => e z.symm)]; exact h3 q⟩
theorem lay_kv {v : Kv} (h : v.Good) : v.d.canLay0 = true ∧ v.d.depth = 0 := by
  cases v with
  | n i => simp [Kv.d, PyData.canLay0, PyData.depth]
  | t x =>
    refine ⟨?_, by simp [Kv.d, PyData.depth]⟩
    simp only [Kv.d, PyData.canLay0, PyData.strOk, strL]
    simp
    intro c hc
    have := h.2 c hc
    unfold GoodC at this
    omega
theorem lay_rows : ∀ {vs : List Kv}, (∀ v ∈ vs, v.Good) → PyData.canLayAll0 (vs.map Kv.rd) = true ∧ PyData.depthAll (vs.map Kv.rd) ≤ 1
  | [], _ => by simp [PyData.canLayAll0, PyData.depthAll]
  | v :: vs, h => by
    obtain ⟨h1, h2⟩ := lay_kv (h v List.mem_cons_self)
    obtain ⟨h3, h4⟩ := lay_rows fun w hw => h w (List.mem_cons_of_mem _ hw)
    simp only [List.map_cons, PyData.canLayAll0, PyData.depthAll, Kv.rd, PyData.canLay0, PyData.depth, h1, h2, h3]
    simp
    omega
theorem lay_row : ∀ {vs : List Kv}, (∀ v ∈ vs, v.Good) → PyData.canLayAll0 (vs.map Kv.d) = true ∧ PyData.depthAll (vs.map Kv.d) = 0
  | [], _ => by simp [PyData.canLayAll0, PyData.depthAll]
  | v :: vs, h => by
    obtain ⟨h1, h2⟩ := lay_kv (h v List.mem_cons_self)
    obtain ⟨h3, h4⟩ := lay_row fun w hw => h w (List.mem_cons_of_mem _ hw)
    simp only [List.map_cons, PyData.canLayAll0, PyData.depthAll, h1, h2, h3, h4]
    simp
theorem eqvAll_kv : ∀ a b : List Kv, PyData.eqvAll (a.map Kv.d) (b.map Kv.d) = decide (a = b)
  | [], [] => by simp [PyData.eqvAll]
  | [], y :: b => by simp [PyData.eqvAll]
  | x :: a, [] => by simp [PyData.eqvAll]
  | x :: a, y :: b => by
    simp only [List.map_cons, PyData.eqvAll, kv_eqv, eqvAll_kv a b]
    by_cases h : x = y <;> simp [h]
theorem eqvAll_rd : ∀ a b : List Kv, PyData.eqvAll (a.map Kv.rd) (b.map Kv.rd) = decide (a = b)
  | [], [] => by simp [PyData.eqvAll]
  | [], y :: b => by simp [PyData.eqvAll]
  | x :: a, [] => by simp [PyData.eqvAll]
  | x :: a, y :: b => by
    simp only [List.map_cons, PyData.eqvAll, rd_eqv, eqvAll_rd a b]
    by_cases h : x = y <;> simp [h]
/-- rows as tuples, rows as row_order gives them -/
def rp (vs : List Kv) : P := .tup (vs.map kp)
def rop (vs : List Kv) : P := .tup (vs.map kpr)
theorem eq_rows {a b : List Kv} (ha : ∀ v ∈ a, v.Good) (hb : ∀ v ∈ b, v.Good) (m : M) : oEq (rp a) (rp b) m = .ok (.bl (decide (a = b))) m := by
  have s : ∀ {vs : List Kv}, (∀ v ∈ vs, v.Good) → SeqAt.shaped (.tuple (vs.map Kv.d)) = true := fun h => by
    simp only [SeqAt.shaped, PyData.canLay0, PyData.depth, (lay_row h).1, (lay_row h).2]; decide
  unfold rp
  rw [eq_tt]
  unfold eqDat
  simp only [sh_t, P.data, datas_kp, Option.map_some, s ha, s hb, Bool.and_self, if_true, PyData.eqv, eqvAll_kv]
theorem eq_rops {a b : List Kv} (ha : ∀ v ∈ a, v.Good) (hb : ∀ v ∈ b, v.Good) (m : M) : oEq (rop a) (rop b) m = .ok (.bl (decide (a = b))) m := by
  have s : ∀ {vs : List Kv}, (∀ v ∈ vs, v.Good) → SeqAt.shaped (.tuple (vs.map Kv.rd)) = true := fun {vs} h => by
    have := (lay_rows h).2
    simp only [SeqAt.shaped, PyData.canLay0, PyData.depth, (lay_rows h).1, Bool.true_and]; exact decide_eq_true (by omega)
  unfold rop
  rw [eq_tt]
  unfold eqDat
  simp only [sh_t, P.data, datas_kpr, Option.map_some, s ha, s hb, Bool.and_self, if_true, PyData.eqv, eqvAll_rd]
theorem cm_rops {o : Cm} {a b : List Kv} (ha : ∀ v ∈ a, v.Good) (hb : ∀ v ∈ b, v.Good) (m : M) : ∃ r, oCm o (rop a) (rop b) m = .ok (.bl r) m ∧ (o = .lt → r = rowLt a b) ∧ (o = .gt → r = rowLt b a) := by
  obtain ⟨r, h1, h2, h3⟩ := cmpL_rows o 6 a b
  refine ⟨r, ?_, h2, h3⟩
  have hd : decide ((PyData.tuple (a.map Kv.rd)).depth ≤ 64) = true := by
    have := (lay_rows ha).2
    simp only [PyData.depth]; exact decide_eq_true (by omega)
  have h : cmD o (.tuple (a.map Kv.rd)) (.tuple (b.map Kv.rd)) = some r := by
    unfold cmD
    simp only [PyData.canLay0, (lay_rows ha).1, (lay_rows hb).1, hd, Bool.and_self, if_true]
    unfold cmpO
    exact h1
  show (match P.data (.tup (a.map kpr)), P.data (.tup (b.map kpr)) with
    | some a, some b => match cmD o a b with
      | some r => Res.ok (P.bl r) m
      | none => .stuck
    | _, _ => .stuck) = _
  simp only [P.data, datas_kpr, Option.map_some, h]
/-! ### order, agrees -/
def GoodS (x : List Nat) : Prop := ∀ c ∈ x, GoodC c
theorem row_ix (p a : List Kv) (x : Kv) (m : M) : oIx (rp (p ++ x :: a)) (.int (p.length : Int)) m = .ok (kp x) m := by
  unfold rp
  rw [ix_t, atI_nat', List.getElem?_map, List.getElem?_append_right (Nat.le_refl _), Nat.sub_self]
  rfl
theorem row_len (a : List Kv) (m : M) : oLen [rp a] m = .ok (.int (a.length : Int)) m := by
  unfold rp
  rw [len_t, List.length_map]
theorem sgn_cons (x : Kv) (a b : List Kv) : sgn (x :: a) (x :: b) = sgn a b := by
  unfold sgn
  simp [rowLt]
theorem sgn_ne {x y : Kv} (h : x ≠ y) (a b : List Kv) : sgn (x :: a) (y :: b) = if x.lt y = true then -1 else 1 := by
  unfold sgn
  rw [if_neg (by simp [h])]
  simp only [rowLt, if_neg h]
theorem strs_lt (x y : List Nat) (m : M) (hx : GoodS x) (hy : GoodS y) : oCm .lt (.str (strL x)) (.str (strL y)) m = .ok (.bl (lexN x y)) m := by
  have lay : ∀ {x : List Nat}, GoodS x → (PyData.str (strL x)).canLay0 = true := fun {x} h => by
    simp only [PyData.canLay0, PyData.strOk, strL]
    simp
    intro c hc
    have := h c hc
    unfold GoodC at this
    omega
  have h : cmD .lt (.str (strL x)) (.str (strL y)) = some (lexN x y) := by
    unfold cmD
    have hd : decide ((PyData.str (strL x)).depth ≤ 64) = true := decide_eq_true (by simp only [PyData.depth]; omega)
    simp only [lay hx, lay hy, hd, Bool.and_self, if_true]
    unfold cmpO
    simp only [Cm.str, strL_cps, lexN_lt]
  show (match P.data (.str (strL x)), P.data (.str (strL y)) with
    | some a, some b => match cmD .lt a b with
      | some r => Res.ok (P.bl r) m
      | none => .stuck
    | _, _ => .stuck) = _
  simp only [P.data, h]
theorem order_loop (m : M) : ∀ (a b p : List Kv) (o3 o2 : Option P), (∀ v ∈ a, v.Good) → (∀ v ∈ b, v.Good) →
    (forG (.name 2) (fSeq (fAsg (.name 3) (fLst false (fCons (fCall oIsi (fCons (fOp oIx (fVar 0) (fVar 2)) (fCons (fC (.ty "str")) fNil))) (fCons (fCall oIsi (fCons (fOp oIx (fVar 1) (fVar 2)) (fCons (fC (.ty "str")) fNil))) fNil))))
  (fSeq (fIfS (fBl (fOp oNe (fOp oIx (fVar 3) (fC (.int 0))) (fOp oIx (fVar 3) (fC (.int 1))))) (fRet (fOp oSub (fC (.int 1)) (fOp (oMul false) (fC (.int 2)) (fCall oInt (fCons (fOp oIx (fVar 3) (fC (.int 1))) fNil))))) fNext)
  (fIfS (fBl (fOp oNe (fOp oIx (fVar 0) (fVar 2)) (fOp oIx (fVar 1) (fVar 2)))) (fRet (fOp oSub (fC (.int 1)) (fOp (oMul false) (fC (.int 2)) (fCall oInt (fCons (fOp (oCm .lt) (fOp oIx (fVar 0) (fVar 2)) (fOp oIx (fVar 1) (fVar 2))) fNil))))) fNext))) [] ((List.range' p.length (min a.length b.length)).map fun (i : Nat) => .int (i : Int)) [some (rp (p ++ a)), some (rp (p ++ b)), o2, o3] m).next (fRet (fOp oSub (fCall oInt (fCons (fOp (oCm .gt) (fCall oLen (fCons (fVar 0) fNil)) (fCall oLen (fCons (fVar 1) fNil))) fNil)) (fCall oInt (fCons (fOp (oCm .lt) (fCall oLen (fCons (fVar 0) fNil)) (fCall oLen (fCons (fVar 1) fNil))) fNil)))) = .rt (.int (sgn a b)) m
  | [], [], p, o3, o2, _, _ => by
    simp [forG_nil, mkL_f, mkL_t, wipeP, mulOk, lw_l, lw_c, lv_l, lv_c, lv_x, sv_l, sv_c, sv_x, sv_t, lw_i, lw_s, lw_t, lv_s, lv_t, lv_i, lv_n, add_ii, add_ss, add_tt, add_ll, add_lc, add_cl, add_cc, sub_ii, plus_ii, mul_ii, mul_li, fdv_ii, mod_ii, pow_ii, neg_i, sh_i, sh_s, sh_t, sh_l, sh_n, sh_b, sh_c, eq_nn, ne_nn, eq_ni, ne_ni, eq_in, ne_in, eq_nb, ne_nb, eq_bn, ne_bn, eq_ns, ne_ns, eq_sn, ne_sn, eq_ii, ne_ii, eq_bb, ne_bb, eq_ss, ne_ss, eq_is, ne_is, eq_si, ne_si, eq_bs, ne_bs, eq_sb, ne_sb, isn_n, non_n, isn_i, non_i, isn_b, non_b, isn_s, non_s, isn_t, non_t, isn_l, non_l, isn_c, non_c, isn_x, non_x, tru_n, tru_b, tru_i, tru_t, tru_l, notv_b, ix_t, ix_s, ix_l, ix_x, ix_c, ixl_c, sl_t, sl_s, sl_l, sl_c, rev_l, rev_c, len_t, len_l, len_x, len_s, len_c, list_t, list_l, list_x, list_c, tuple_t, tuple_l, tuple_c, int_i, int_b, abs_i, ord_s, isi_n, isi_b, isi_i, isi_s, isi_t, isi_l, isi_c, kindc, max_ii, min_ii, app_c, ext_c, set_c, sidx_ss, cm_ii, cm_ile, cm_igt, cm_ige, isl_l, isl_c, isl_s, iss_s, iss_l, b_ok, b_st, b_ex, o_ok, o_st, o_ex, c_ok, c_st, c_ex, fin_rt, fin_nx, fin_st, nx_nx, nx_rt, nx_bk, nx_ct, nx_ex, nx_st, e_seq, e_var, e_c, e_op, e_un, e_nil, e_cons, e_call, e_tup, e_lst, e_otup, e_olst, e_gd, e_asg, e_drop, e_ret, e_retN, e_next, e_brk, e_cont, e_ifs, e_setS, e_aug, e_augS, e_tru, e_bl, e_and, e_or, e_not, e_andV, e_orV, e_notV, e_if, e_chain, e_nop, e_part, e_sl, e_iSeq, e_iR1, e_iR2, rngOk_of, rngOk2_of, e_for, e_lc, e_yes, e_mt, e_mt2, e_join, e_put, e_fits, Tg.put, TgL.puts, row_len, sgn]
  | [], y :: b, p, o3, o2, _, _ => by
    have h : ¬ ((p.length : Int) + ((b.length : Int) + 1) < (p.length : Int)) := by omega
    have h2 : (p.length : Int) < (p.length : Int) + ((b.length : Int) + 1) := by omega
    simp [forG_nil, mkL_f, mkL_t, wipeP, mulOk, lw_l, lw_c, lv_l, lv_c, lv_x, sv_l, sv_c, sv_x, sv_t, lw_i, lw_s, lw_t, lv_s, lv_t, lv_i, lv_n, add_ii, add_ss, add_tt, add_ll, add_lc, add_cl, add_cc, sub_ii, plus_ii, mul_ii, mul_li, fdv_ii, mod_ii, pow_ii, neg_i, sh_i, sh_s, sh_t, sh_l, sh_n, sh_b, sh_c, eq_nn, ne_nn, eq_ni, ne_ni, eq_in, ne_in, eq_nb, ne_nb, eq_bn, ne_bn, eq_ns, ne_ns, eq_sn, ne_sn, eq_ii, ne_ii, eq_bb, ne_bb, eq_ss, ne_ss, eq_is, ne_is, eq_si, ne_si, eq_bs, ne_bs, eq_sb, ne_sb, isn_n, non_n, isn_i, non_i, isn_b, non_b, isn_s, non_s, isn_t, non_t, isn_l, non_l, isn_c, non_c, isn_x, non_x, tru_n, tru_b, tru_i, tru_t, tru_l, notv_b, ix_t, ix_s, ix_l, ix_x, ix_c, ixl_c, sl_t, sl_s, sl_l, sl_c, rev_l, rev_c, len_t, len_l, len_x, len_s, len_c, list_t, list_l, list_x, list_c, tuple_t, tuple_l, tuple_c, int_i, int_b, abs_i, ord_s, isi_n, isi_b, isi_i, isi_s, isi_t, isi_l, isi_c, kindc, max_ii, min_ii, app_c, ext_c, set_c, sidx_ss, cm_ii, cm_ile, cm_igt, cm_ige, isl_l, isl_c, isl_s, iss_s, iss_l, b_ok, b_st, b_ex, o_ok, o_st, o_ex, c_ok, c_st, c_ex, fin_rt, fin_nx, fin_st, nx_nx, nx_rt, nx_bk, nx_ct, nx_ex, nx_st, e_seq, e_var, e_c, e_op, e_un, e_nil, e_cons, e_call, e_tup, e_lst, e_otup, e_olst, e_gd, e_asg, e_drop, e_ret, e_retN, e_next, e_brk, e_cont, e_ifs, e_setS, e_aug, e_augS, e_tru, e_bl, e_and, e_or, e_not, e_andV, e_orV, e_notV, e_if, e_chain, e_nop, e_part, e_sl, e_iSeq, e_iR1, e_iR2, rngOk_of, rngOk2_of, e_for, e_lc, e_yes, e_mt, e_mt2, e_join, e_put, e_fits, Tg.put, TgL.puts, row_len, sgn, rowLt, h, h2]
  | x :: a, [], p, o3, o2, _, _ => by
    have h : ¬ ((p.length : Int) + ((a.length : Int) + 1) < (p.length : Int)) := by omega
    have h2 : (p.length : Int) < (p.length : Int) + ((a.length : Int) + 1) := by omega
    simp [forG_nil, mkL_f, mkL_t, wipeP, mulOk, lw_l, lw_c, lv_l, lv_c, lv_x, sv_l, sv_c, sv_x, sv_t, lw_i, lw_s, lw_t, lv_s, lv_t, lv_i, lv_n, add_ii, add_ss, add_tt, add_ll, add_lc, add_cl, add_cc, sub_ii, plus_ii, mul_ii, mul_li, fdv_ii, mod_ii, pow_ii, neg_i, sh_i, sh_s, sh_t, sh_l, sh_n, sh_b, sh_c, eq_nn, ne_nn, eq_ni, ne_ni, eq_in, ne_in, eq_nb, ne_nb, eq_bn, ne_bn, eq_ns, ne_ns, eq_sn, ne_sn, eq_ii, ne_ii, eq_bb, ne_bb, eq_ss, ne_ss, eq_is, ne_is, eq_si, ne_si, eq_bs, ne_bs, eq_sb, ne_sb, isn_n, non_n, isn_i, non_i, isn_b, non_b, isn_s, non_s, isn_t, non_t, isn_l, non_l, isn_c, non_c, isn_x, non_x, tru_n, tru_b, tru_i, tru_t, tru_l, notv_b, ix_t, ix_s, ix_l, ix_x, ix_c, ixl_c, sl_t, sl_s, sl_l, sl_c, rev_l, rev_c, len_t, len_l, len_x, len_s, len_c, list_t, list_l, list_x, list_c, tuple_t, tuple_l, tuple_c, int_i, int_b, abs_i, ord_s, isi_n, isi_b, isi_i, isi_s, isi_t, isi_l, isi_c, kindc, max_ii, min_ii, app_c, ext_c, set_c, sidx_ss, cm_ii, cm_ile, cm_igt, cm_ige, isl_l, isl_c, isl_s, iss_s, iss_l, b_ok, b_st, b_ex, o_ok, o_st, o_ex, c_ok, c_st, c_ex, fin_rt, fin_nx, fin_st, nx_nx, nx_rt, nx_bk, nx_ct, nx_ex, nx_st, e_seq, e_var, e_c, e_op, e_un, e_nil, e_cons, e_call, e_tup, e_lst, e_otup, e_olst, e_gd, e_asg, e_drop, e_ret, e_retN, e_next, e_brk, e_cont, e_ifs, e_setS, e_aug, e_augS, e_tru, e_bl, e_and, e_or, e_not, e_andV, e_orV, e_notV, e_if, e_chain, e_nop, e_part, e_sl, e_iSeq, e_iR1, e_iR2, rngOk_of, rngOk2_of, e_for, e_lc, e_yes, e_mt, e_mt2, e_join, e_put, e_fits, Tg.put, TgL.puts, row_len, sgn, rowLt, h, h2]
  | x :: a, y :: b, p, o3, o2, ha, hb => by
    have e : min (x :: a).length (y :: b).length = min a.length b.length + 1 := by simp only [List.length_cons]; omega
    have hx := ha x List.mem_cons_self
    have hy := hb y List.mem_cons_self
    have ih := fun o3 o2 => order_loop m a b (p ++ [x]) o3 o2 (fun w hw => ha w (List.mem_cons_of_mem _ hw)) (fun w hw => hb w (List.mem_cons_of_mem _ hw))
    have r1 := fun m => row_ix p a x m
    have r2 := fun m => row_ix p b y m
    rw [e, List.range'_succ, List.map_cons, forG_cons]
    by_cases hxy : x = y
    · subst hxy
      rw [sgn_cons]
      simp only [List.length_append, List.length_singleton, List.append_assoc, List.singleton_append] at ih
      cases x with
      | n i =>
        have := ih (some (.lst [.bl false, .bl false])) (some (.int p.length))
        simp [mkL_f, mkL_t, wipeP, mulOk, lw_l, lw_c, lv_l, lv_c, lv_x, sv_l, sv_c, sv_x, sv_t, lw_i, lw_s, lw_t, lv_s, lv_t, lv_i, lv_n, add_ii, add_ss, add_tt, add_ll, add_lc, add_cl, add_cc, sub_ii, plus_ii, mul_ii, mul_li, fdv_ii, mod_ii, pow_ii, neg_i, sh_i, sh_s, sh_t, sh_l, sh_n, sh_b, sh_c, eq_nn, ne_nn, eq_ni, ne_ni, eq_in, ne_in, eq_nb, ne_nb, eq_bn, ne_bn, eq_ns, ne_ns, eq_sn, ne_sn, eq_ii, ne_ii, eq_bb, ne_bb, eq_ss, ne_ss, eq_is, ne_is, eq_si, ne_si, eq_bs, ne_bs, eq_sb, ne_sb, isn_n, non_n, isn_i, non_i, isn_b, non_b, isn_s, non_s, isn_t, non_t, isn_l, non_l, isn_c, non_c, isn_x, non_x, tru_n, tru_b, tru_i, tru_t, tru_l, notv_b, ix_t, ix_s, ix_l, ix_x, ix_c, ixl_c, sl_t, sl_s, sl_l, sl_c, rev_l, rev_c, len_t, len_l, len_x, len_s, len_c, list_t, list_l, list_x, list_c, tuple_t, tuple_l, tuple_c, int_i, int_b, abs_i, ord_s, isi_n, isi_b, isi_i, isi_s, isi_t, isi_l, isi_c, kindc, max_ii, min_ii, app_c, ext_c, set_c, sidx_ss, cm_ii, cm_ile, cm_igt, cm_ige, isl_l, isl_c, isl_s, iss_s, iss_l, b_ok, b_st, b_ex, o_ok, o_st, o_ex, c_ok, c_st, c_ex, fin_rt, fin_nx, fin_st, nx_nx, nx_rt, nx_bk, nx_ct, nx_ex, nx_st, e_seq, e_var, e_c, e_op, e_un, e_nil, e_cons, e_call, e_tup, e_lst, e_otup, e_olst, e_gd, e_asg, e_drop, e_ret, e_retN, e_next, e_brk, e_cont, e_ifs, e_setS, e_aug, e_augS, e_tru, e_bl, e_and, e_or, e_not, e_andV, e_orV, e_notV, e_if, e_chain, e_nop, e_part, e_sl, e_iSeq, e_iR1, e_iR2, rngOk_of, rngOk2_of, e_for, e_lc, e_yes, e_mt, e_mt2, e_join, e_put, e_fits, Tg.put, TgL.puts, r1, r2, kp, atI_0, atI_1]
        exact this
      | t z =>
        have := ih (some (.lst [.bl true, .bl true])) (some (.int p.length))
        simp [mkL_f, mkL_t, wipeP, mulOk, lw_l, lw_c, lv_l, lv_c, lv_x, sv_l, sv_c, sv_x, sv_t, lw_i, lw_s, lw_t, lv_s, lv_t, lv_i, lv_n, add_ii, add_ss, add_tt, add_ll, add_lc, add_cl, add_cc, sub_ii, plus_ii, mul_ii, mul_li, fdv_ii, mod_ii, pow_ii, neg_i, sh_i, sh_s, sh_t, sh_l, sh_n, sh_b, sh_c, eq_nn, ne_nn, eq_ni, ne_ni, eq_in, ne_in, eq_nb, ne_nb, eq_bn, ne_bn, eq_ns, ne_ns, eq_sn, ne_sn, eq_ii, ne_ii, eq_bb, ne_bb, eq_ss, ne_ss, eq_is, ne_is, eq_si, ne_si, eq_bs, ne_bs, eq_sb, ne_sb, isn_n, non_n, isn_i, non_i, isn_b, non_b, isn_s, non_s, isn_t, non_t, isn_l, non_l, isn_c, non_c, isn_x, non_x, tru_n, tru_b, tru_i, tru_t, tru_l, notv_b, ix_t, ix_s, ix_l, ix_x, ix_c, ixl_c, sl_t, sl_s, sl_l, sl_c, rev_l, rev_c, len_t, len_l, len_x, len_s, len_c, list_t, list_l, list_x, list_c, tuple_t, tuple_l, tuple_c, int_i, int_b, abs_i, ord_s, isi_n, isi_b, isi_i, isi_s, isi_t, isi_l, isi_c, kindc, max_ii, min_ii, app_c, ext_c, set_c, sidx_ss, cm_ii, cm_ile, cm_igt, cm_ige, isl_l, isl_c, isl_s, iss_s, iss_l, b_ok, b_st, b_ex, o_ok, o_st, o_ex, c_ok, c_st, c_ex, fin_rt, fin_nx, fin_st, nx_nx, nx_rt, nx_bk, nx_ct, nx_ex, nx_st, e_seq, e_var, e_c, e_op, e_un, e_nil, e_cons, e_call, e_tup, e_lst, e_otup, e_olst, e_gd, e_asg, e_drop, e_ret, e_retN, e_next, e_brk, e_cont, e_ifs, e_setS, e_aug, e_augS, e_tru, e_bl, e_and, e_or, e_not, e_andV, e_orV, e_notV, e_if, e_chain, e_nop, e_part, e_sl, e_iSeq, e_iR1, e_iR2, rngOk_of, rngOk2_of, e_for, e_lc, e_yes, e_mt, e_mt2, e_join, e_put, e_fits, Tg.put, TgL.puts, r1, r2, kp, atI_0, atI_1]
        exact this
    · rw [sgn_ne hxy]
      cases x with
      | n i => cases y with
        | n j =>
          have hij : i ≠ j := fun q => hxy (by rw [q])
          by_cases hl : i < j <;> simp [mkL_f, mkL_t, wipeP, mulOk, lw_l, lw_c, lv_l, lv_c, lv_x, sv_l, sv_c, sv_x, sv_t, lw_i, lw_s, lw_t, lv_s, lv_t, lv_i, lv_n, add_ii, add_ss, add_tt, add_ll, add_lc, add_cl, add_cc, sub_ii, plus_ii, mul_ii, mul_li, fdv_ii, mod_ii, pow_ii, neg_i, sh_i, sh_s, sh_t, sh_l, sh_n, sh_b, sh_c, eq_nn, ne_nn, eq_ni, ne_ni, eq_in, ne_in, eq_nb, ne_nb, eq_bn, ne_bn, eq_ns, ne_ns, eq_sn, ne_sn, eq_ii, ne_ii, eq_bb, ne_bb, eq_ss, ne_ss, eq_is, ne_is, eq_si, ne_si, eq_bs, ne_bs, eq_sb, ne_sb, isn_n, non_n, isn_i, non_i, isn_b, non_b, isn_s, non_s, isn_t, non_t, isn_l, non_l, isn_c, non_c, isn_x, non_x, tru_n, tru_b, tru_i, tru_t, tru_l, notv_b, ix_t, ix_s, ix_l, ix_x, ix_c, ixl_c, sl_t, sl_s, sl_l, sl_c, rev_l, rev_c, len_t, len_l, len_x, len_s, len_c, list_t, list_l, list_x, list_c, tuple_t, tuple_l, tuple_c, int_i, int_b, abs_i, ord_s, isi_n, isi_b, isi_i, isi_s, isi_t, isi_l, isi_c, kindc, max_ii, min_ii, app_c, ext_c, set_c, sidx_ss, cm_ii, cm_ile, cm_igt, cm_ige, isl_l, isl_c, isl_s, iss_s, iss_l, b_ok, b_st, b_ex, o_ok, o_st, o_ex, c_ok, c_st, c_ex, fin_rt, fin_nx, fin_st, nx_nx, nx_rt, nx_bk, nx_ct, nx_ex, nx_st, e_seq, e_var, e_c, e_op, e_un, e_nil, e_cons, e_call, e_tup, e_lst, e_otup, e_olst, e_gd, e_asg, e_drop, e_ret, e_retN, e_next, e_brk, e_cont, e_ifs, e_setS, e_aug, e_augS, e_tru, e_bl, e_and, e_or, e_not, e_andV, e_orV, e_notV, e_if, e_chain, e_nop, e_part, e_sl, e_iSeq, e_iR1, e_iR2, rngOk_of, rngOk2_of, e_for, e_lc, e_yes, e_mt, e_mt2, e_join, e_put, e_fits, Tg.put, TgL.puts, r1, r2, kp, atI_0, atI_1, hij, Kv.lt, hl]
        | t z => simp [mkL_f, mkL_t, wipeP, mulOk, lw_l, lw_c, lv_l, lv_c, lv_x, sv_l, sv_c, sv_x, sv_t, lw_i, lw_s, lw_t, lv_s, lv_t, lv_i, lv_n, add_ii, add_ss, add_tt, add_ll, add_lc, add_cl, add_cc, sub_ii, plus_ii, mul_ii, mul_li, fdv_ii, mod_ii, pow_ii, neg_i, sh_i, sh_s, sh_t, sh_l, sh_n, sh_b, sh_c, eq_nn, ne_nn, eq_ni, ne_ni, eq_in, ne_in, eq_nb, ne_nb, eq_bn, ne_bn, eq_ns, ne_ns, eq_sn, ne_sn, eq_ii, ne_ii, eq_bb, ne_bb, eq_ss, ne_ss, eq_is, ne_is, eq_si, ne_si, eq_bs, ne_bs, eq_sb, ne_sb, isn_n, non_n, isn_i, non_i, isn_b, non_b, isn_s, non_s, isn_t, non_t, isn_l, non_l, isn_c, non_c, isn_x, non_x, tru_n, tru_b, tru_i, tru_t, tru_l, notv_b, ix_t, ix_s, ix_l, ix_x, ix_c, ixl_c, sl_t, sl_s, sl_l, sl_c, rev_l, rev_c, len_t, len_l, len_x, len_s, len_c, list_t, list_l, list_x, list_c, tuple_t, tuple_l, tuple_c, int_i, int_b, abs_i, ord_s, isi_n, isi_b, isi_i, isi_s, isi_t, isi_l, isi_c, kindc, max_ii, min_ii, app_c, ext_c, set_c, sidx_ss, cm_ii, cm_ile, cm_igt, cm_ige, isl_l, isl_c, isl_s, iss_s, iss_l, b_ok, b_st, b_ex, o_ok, o_st, o_ex, c_ok, c_st, c_ex, fin_rt, fin_nx, fin_st, nx_nx, nx_rt, nx_bk, nx_ct, nx_ex, nx_st, e_seq, e_var, e_c, e_op, e_un, e_nil, e_cons, e_call, e_tup, e_lst, e_otup, e_olst, e_gd, e_asg, e_drop, e_ret, e_retN, e_next, e_brk, e_cont, e_ifs, e_setS, e_aug, e_augS, e_tru, e_bl, e_and, e_or, e_not, e_andV, e_orV, e_notV, e_if, e_chain, e_nop, e_part, e_sl, e_iSeq, e_iR1, e_iR2, rngOk_of, rngOk2_of, e_for, e_lc, e_yes, e_mt, e_mt2, e_join, e_put, e_fits, Tg.put, TgL.puts, r1, r2, kp, atI_0, atI_1, Kv.lt]
      | t w => cases y with
        | n j => simp [mkL_f, mkL_t, wipeP, mulOk, lw_l, lw_c, lv_l, lv_c, lv_x, sv_l, sv_c, sv_x, sv_t, lw_i, lw_s, lw_t, lv_s, lv_t, lv_i, lv_n, add_ii, add_ss, add_tt, add_ll, add_lc, add_cl, add_cc, sub_ii, plus_ii, mul_ii, mul_li, fdv_ii, mod_ii, pow_ii, neg_i, sh_i, sh_s, sh_t, sh_l, sh_n, sh_b, sh_c, eq_nn, ne_nn, eq_ni, ne_ni, eq_in, ne_in, eq_nb, ne_nb, eq_bn, ne_bn, eq_ns, ne_ns, eq_sn, ne_sn, eq_ii, ne_ii, eq_bb, ne_bb, eq_ss, ne_ss, eq_is, ne_is, eq_si, ne_si, eq_bs, ne_bs, eq_sb, ne_sb, isn_n, non_n, isn_i, non_i, isn_b, non_b, isn_s, non_s, isn_t, non_t, isn_l, non_l, isn_c, non_c, isn_x, non_x, tru_n, tru_b, tru_i, tru_t, tru_l, notv_b, ix_t, ix_s, ix_l, ix_x, ix_c, ixl_c, sl_t, sl_s, sl_l, sl_c, rev_l, rev_c, len_t, len_l, len_x, len_s, len_c, list_t, list_l, list_x, list_c, tuple_t, tuple_l, tuple_c, int_i, int_b, abs_i, ord_s, isi_n, isi_b, isi_i, isi_s, isi_t, isi_l, isi_c, kindc, max_ii, min_ii, app_c, ext_c, set_c, sidx_ss, cm_ii, cm_ile, cm_igt, cm_ige, isl_l, isl_c, isl_s, iss_s, iss_l, b_ok, b_st, b_ex, o_ok, o_st, o_ex, c_ok, c_st, c_ex, fin_rt, fin_nx, fin_st, nx_nx, nx_rt, nx_bk, nx_ct, nx_ex, nx_st, e_seq, e_var, e_c, e_op, e_un, e_nil, e_cons, e_call, e_tup, e_lst, e_otup, e_olst, e_gd, e_asg, e_drop, e_ret, e_retN, e_next, e_brk, e_cont, e_ifs, e_setS, e_aug, e_augS, e_tru, e_bl, e_and, e_or, e_not, e_andV, e_orV, e_notV, e_if, e_chain, e_nop, e_part, e_sl, e_iSeq, e_iR1, e_iR2, rngOk_of, rngOk2_of, e_for, e_lc, e_yes, e_mt, e_mt2, e_join, e_put, e_fits, Tg.put, TgL.puts, r1, r2, kp, atI_0, atI_1, Kv.lt]
        | t z =>
          have hij : ¬ strL w = strL z := fun q => hxy (by rw [strL_inj.mp q])
          have hlt := fun m => strs_lt w z m hx.2 hy.2
          cases hl : lexN w z <;> simp [mkL_f, mkL_t, wipeP, mulOk, lw_l, lw_c, lv_l, lv_c, lv_x, sv_l, sv_c, sv_x, sv_t, lw_i, lw_s, lw_t, lv_s, lv_t, lv_i, lv_n, add_ii, add_ss, add_tt, add_ll, add_lc, add_cl, add_cc, sub_ii, plus_ii, mul_ii, mul_li, fdv_ii, mod_ii, pow_ii, neg_i, sh_i, sh_s, sh_t, sh_l, sh_n, sh_b, sh_c, eq_nn, ne_nn, eq_ni, ne_ni, eq_in, ne_in, eq_nb, ne_nb, eq_bn, ne_bn, eq_ns, ne_ns, eq_sn, ne_sn, eq_ii, ne_ii, eq_bb, ne_bb, eq_ss, ne_ss, eq_is, ne_is, eq_si, ne_si, eq_bs, ne_bs, eq_sb, ne_sb, isn_n, non_n, isn_i, non_i, isn_b, non_b, isn_s, non_s, isn_t, non_t, isn_l, non_l, isn_c, non_c, isn_x, non_x, tru_n, tru_b, tru_i, tru_t, tru_l, notv_b, ix_t, ix_s, ix_l, ix_x, ix_c, ixl_c, sl_t, sl_s, sl_l, sl_c, rev_l, rev_c, len_t, len_l, len_x, len_s, len_c, list_t, list_l, list_x, list_c, tuple_t, tuple_l, tuple_c, int_i, int_b, abs_i, ord_s, isi_n, isi_b, isi_i, isi_s, isi_t, isi_l, isi_c, kindc, max_ii, min_ii, app_c, ext_c, set_c, sidx_ss, cm_ii, cm_ile, cm_igt, cm_ige, isl_l, isl_c, isl_s, iss_s, iss_l, b_ok, b_st, b_ex, o_ok, o_st, o_ex, c_ok, c_st, c_ex, fin_rt, fin_nx, fin_st, nx_nx, nx_rt, nx_bk, nx_ct, nx_ex, nx_st, e_seq, e_var, e_c, e_op, e_un, e_nil, e_cons, e_call, e_tup, e_lst, e_otup, e_olst, e_gd, e_asg, e_drop, e_ret, e_retN, e_next, e_brk, e_cont, e_ifs, e_setS, e_aug, e_augS, e_tru, e_bl, e_and, e_or, e_not, e_andV, e_orV, e_notV, e_if, e_chain, e_nop, e_part, e_sl, e_iSeq, e_iR1, e_iR2, rngOk_of, rngOk2_of, e_for, e_lc, e_yes, e_mt, e_mt2, e_join, e_put, e_fits, Tg.put, TgL.puts, r1, r2, kp, atI_0, atI_1, hij, Kv.lt, hlt, hl]
theorem agrees_lst (a b c d e f : Bool) (m : M) : oEq (.lst [.bl a, .bl b, .bl c]) (.lst [.bl d, .bl e, .bl f]) m = .ok (.bl (a == d && (b == e && c == f))) m := by
  rw [eq_ll]
  unfold eqDat
  have s : ∀ x y z : Bool, SeqAt.shaped (.list [.bool x, .bool y, .bool z]) = true := by decide
  simp only [sh_l, P.data, P.datas, Option.map_some, s, Bool.and_self, if_true, PyData.eqv, PyData.eqvAll, Bool.and_true]
theorem sgn_facts {a b : List Kv} (ha : ∀ v ∈ a, v.Good) (hb : ∀ v ∈ b, v.Good) : rowLt a b = decide (sgn a b < 0) ∧ decide (a = b) = decide (sgn a b = 0) ∧ rowLt b a = decide (0 < sgn a b) := by
  by_cases h : a = b
  · subst h
    simp [sgn, rowLt_self]
  · have ht := row_tri ha hb h
    cases hl : rowLt a b <;> simp [sgn, h, hl, ht]
end
/-! PB -/
section
open PySem PySem.Spec PyProof.Rows
/-! PB: the written form of pages -/
inductive Pg where
  | leaf (es : List (List Int × List Kv))
  | inner (cs : List (List Int × Int))
def lenI {α : Type} (l : List α) : Int := l.length
def entB (e : List Int × List Kv) : List Int := lenI e.1 :: e.1 ++ (lenI (keyB e.2) :: keyB e.2)
def chiB (c : List Int × Int) : List Int := c.2 / 256 :: c.2 % 256 :: lenI c.1 :: c.1
def flatB {α : Type} (f : α → List Int) : List α → List Int
  | [] => []
  | x :: xs => f x ++ flatB f xs
def pageB : Pg → List Int
  | .leaf es => 0 :: lenI es :: flatB entB es
  | .inner cs => 1 :: lenI cs :: flatB chiB cs
def padB (l : List Int) : Option (List Int) := if l.length ≤ 256 then some (l ++ List.replicate (256 - l.length) 0) else none
def wr (p : Pg) : Option (List Int) := padB (pageB p)
def entP (e : List Int × List Kv) : P := .tup [ip e.1, .tup (e.2.map kp)]
def chiP (c : List Int × Int) : P := .tup [ip c.1, .int c.2]
def pgP : Pg → P
  | .leaf es => .tup [.str "leaf", .tup (es.map entP)]
  | .inner cs => .tup [.str "inner", .tup (cs.map chiP)]
def blP (l : List Int) : P := .lst (l.map .int)
/-- small enough to be written at all -/
def Pg.Small : Pg → Prop
  | .leaf es => es.length ≤ 300 ∧ (flatB entB es).length ≤ 90000 ∧ ∀ e ∈ es, e.1.length ≤ 300 ∧ e.2.length ≤ 200 ∧ ∀ v ∈ e.2, v.Good
  | .inner cs => cs.length ≤ 300 ∧ (flatB chiB cs).length ≤ 90000 ∧ ∀ c ∈ cs, c.1.length ≤ 300
theorem fits_of {n : Nat} (h : n ≤ 100000) : fits n = true := decide_eq_true h
theorem addL {xs ys : List P} {m : M} (h : xs.length + ys.length ≤ 100000) : oAdd false (.lst xs) (.lst ys) m = .ok (.lst (xs ++ ys)) m := by rw [add_ll, if_pos (fits_of h), mkL_f]
theorem entry_bytes_k {e : List Int × List Kv} (h1 : e.1.length ≤ 300) (h2 : e.2.length ≤ 200) (h3 : ∀ v ∈ e.2, v.Good) (m : M) : f_entry_bytes [entP e] m = .ok (blP (entB e)) m := by
  have hk := keyB_len h3
  have hf := key_of_k h3 (by omega) m
  obtain ⟨k, vs⟩ := e
  simp only at h1 h2 h3 hk hf
  have hw : (keyB vs).length ≤ 1600 := by omega
  generalize hwE : keyB vs = w at hk hf hw
  unfold f_entry_bytes fnC fnF fb_entry_bytes
  simp only [startP, List.map_cons, List.map_nil, List.length_cons, List.length_nil]
  rw [show (List.replicate (4 - (0 + 1)) (none : Option P)) = [none, none, none] from rfl]
  simp only [List.cons_append, List.nil_append]
  rw [e_seq, e_asg]
  simp only [e_var, List.getElem?_cons_zero, o_ok, entP, Tg.put, TgL.puts, List.set_cons_succ, List.set_cons_zero]
  rw [nx_nx, e_seq, e_asg]
  simp only [e_call, e_cons, e_var, List.getElem?_cons_succ, List.getElem?_cons_zero, b_ok, e_nil]
  rw [e_gd, if_pos (show [P.tup (vs.map kp)].length = 1 from rfl), hf, o_ok]
  simp only [Tg.put, List.set_cons_succ, List.set_cons_zero]
  rw [nx_nx, e_ret]
  have l1 : oLen [ip k] m = .ok (.int (k.length : Int)) m := by simp [mkL_f, mkL_t, wipeP, mulOk, lw_l, lw_c, lv_l, lv_c, lv_x, sv_l, sv_c, sv_x, sv_t, lw_i, lw_s, lw_t, lv_s, lv_t, lv_i, lv_n, add_ii, add_ss, add_tt, add_ll, add_lc, add_cl, add_cc, sub_ii, plus_ii, mul_ii, mul_li, fdv_ii, mod_ii, pow_ii, neg_i, sh_i, sh_s, sh_t, sh_l, sh_n, sh_b, sh_c, eq_nn, ne_nn, eq_ni, ne_ni, eq_in, ne_in, eq_nb, ne_nb, eq_bn, ne_bn, eq_ns, ne_ns, eq_sn, ne_sn, eq_ii, ne_ii, eq_bb, ne_bb, eq_ss, ne_ss, eq_is, ne_is, eq_si, ne_si, eq_bs, ne_bs, eq_sb, ne_sb, isn_n, non_n, isn_i, non_i, isn_b, non_b, isn_s, non_s, isn_t, non_t, isn_l, non_l, isn_c, non_c, isn_x, non_x, tru_n, tru_b, tru_i, tru_t, tru_l, notv_b, ix_t, ix_s, ix_l, ix_x, ix_c, ixl_c, sl_t, sl_s, sl_l, sl_c, rev_l, rev_c, len_t, len_l, len_x, len_s, len_c, list_t, list_l, list_x, list_c, tuple_t, tuple_l, tuple_c, int_i, int_b, abs_i, ord_s, isi_n, isi_b, isi_i, isi_s, isi_t, isi_l, isi_c, kindc, max_ii, min_ii, app_c, ext_c, set_c, sidx_ss, cm_ii, cm_ile, cm_igt, cm_ige, isl_l, isl_c, isl_s, iss_s, iss_l, b_ok, b_st, b_ex, o_ok, o_st, o_ex, c_ok, c_st, c_ex, fin_rt, fin_nx, fin_st, nx_nx, nx_rt, nx_bk, nx_ct, nx_ex, nx_st, e_seq, e_var, e_c, e_op, e_un, e_nil, e_cons, e_call, e_tup, e_lst, e_otup, e_olst, e_gd, e_asg, e_drop, e_ret, e_retN, e_next, e_brk, e_cont, e_ifs, e_setS, e_aug, e_augS, e_tru, e_bl, e_and, e_or, e_not, e_andV, e_orV, e_notV, e_if, e_chain, e_nop, e_part, e_sl, e_iSeq, e_iR1, e_iR2, rngOk_of, rngOk2_of, e_for, e_lc, e_yes, e_mt, e_mt2, e_join, e_put, e_fits, Tg.put, TgL.puts, ip]
  have l2 : oLen [ip w] m = .ok (.int (w.length : Int)) m := by simp [mkL_f, mkL_t, wipeP, mulOk, lw_l, lw_c, lv_l, lv_c, lv_x, sv_l, sv_c, sv_x, sv_t, lw_i, lw_s, lw_t, lv_s, lv_t, lv_i, lv_n, add_ii, add_ss, add_tt, add_ll, add_lc, add_cl, add_cc, sub_ii, plus_ii, mul_ii, mul_li, fdv_ii, mod_ii, pow_ii, neg_i, sh_i, sh_s, sh_t, sh_l, sh_n, sh_b, sh_c, eq_nn, ne_nn, eq_ni, ne_ni, eq_in, ne_in, eq_nb, ne_nb, eq_bn, ne_bn, eq_ns, ne_ns, eq_sn, ne_sn, eq_ii, ne_ii, eq_bb, ne_bb, eq_ss, ne_ss, eq_is, ne_is, eq_si, ne_si, eq_bs, ne_bs, eq_sb, ne_sb, isn_n, non_n, isn_i, non_i, isn_b, non_b, isn_s, non_s, isn_t, non_t, isn_l, non_l, isn_c, non_c, isn_x, non_x, tru_n, tru_b, tru_i, tru_t, tru_l, notv_b, ix_t, ix_s, ix_l, ix_x, ix_c, ixl_c, sl_t, sl_s, sl_l, sl_c, rev_l, rev_c, len_t, len_l, len_x, len_s, len_c, list_t, list_l, list_x, list_c, tuple_t, tuple_l, tuple_c, int_i, int_b, abs_i, ord_s, isi_n, isi_b, isi_i, isi_s, isi_t, isi_l, isi_c, kindc, max_ii, min_ii, app_c, ext_c, set_c, sidx_ss, cm_ii, cm_ile, cm_igt, cm_ige, isl_l, isl_c, isl_s, iss_s, iss_l, b_ok, b_st, b_ex, o_ok, o_st, o_ex, c_ok, c_st, c_ex, fin_rt, fin_nx, fin_st, nx_nx, nx_rt, nx_bk, nx_ct, nx_ex, nx_st, e_seq, e_var, e_c, e_op, e_un, e_nil, e_cons, e_call, e_tup, e_lst, e_otup, e_olst, e_gd, e_asg, e_drop, e_ret, e_retN, e_next, e_brk, e_cont, e_ifs, e_setS, e_aug, e_augS, e_tru, e_bl, e_and, e_or, e_not, e_andV, e_orV, e_notV, e_if, e_chain, e_nop, e_part, e_sl, e_iSeq, e_iR1, e_iR2, rngOk_of, rngOk2_of, e_for, e_lc, e_yes, e_mt, e_mt2, e_join, e_put, e_fits, Tg.put, TgL.puts, ip]
  have k1 : oList false [ip k] m = .ok (.lst (k.map .int)) m := by simp [mkL_f, mkL_t, wipeP, mulOk, lw_l, lw_c, lv_l, lv_c, lv_x, sv_l, sv_c, sv_x, sv_t, lw_i, lw_s, lw_t, lv_s, lv_t, lv_i, lv_n, add_ii, add_ss, add_tt, add_ll, add_lc, add_cl, add_cc, sub_ii, plus_ii, mul_ii, mul_li, fdv_ii, mod_ii, pow_ii, neg_i, sh_i, sh_s, sh_t, sh_l, sh_n, sh_b, sh_c, eq_nn, ne_nn, eq_ni, ne_ni, eq_in, ne_in, eq_nb, ne_nb, eq_bn, ne_bn, eq_ns, ne_ns, eq_sn, ne_sn, eq_ii, ne_ii, eq_bb, ne_bb, eq_ss, ne_ss, eq_is, ne_is, eq_si, ne_si, eq_bs, ne_bs, eq_sb, ne_sb, isn_n, non_n, isn_i, non_i, isn_b, non_b, isn_s, non_s, isn_t, non_t, isn_l, non_l, isn_c, non_c, isn_x, non_x, tru_n, tru_b, tru_i, tru_t, tru_l, notv_b, ix_t, ix_s, ix_l, ix_x, ix_c, ixl_c, sl_t, sl_s, sl_l, sl_c, rev_l, rev_c, len_t, len_l, len_x, len_s, len_c, list_t, list_l, list_x, list_c, tuple_t, tuple_l, tuple_c, int_i, int_b, abs_i, ord_s, isi_n, isi_b, isi_i, isi_s, isi_t, isi_l, isi_c, kindc, max_ii, min_ii, app_c, ext_c, set_c, sidx_ss, cm_ii, cm_ile, cm_igt, cm_ige, isl_l, isl_c, isl_s, iss_s, iss_l, b_ok, b_st, b_ex, o_ok, o_st, o_ex, c_ok, c_st, c_ex, fin_rt, fin_nx, fin_st, nx_nx, nx_rt, nx_bk, nx_ct, nx_ex, nx_st, e_seq, e_var, e_c, e_op, e_un, e_nil, e_cons, e_call, e_tup, e_lst, e_otup, e_olst, e_gd, e_asg, e_drop, e_ret, e_retN, e_next, e_brk, e_cont, e_ifs, e_setS, e_aug, e_augS, e_tru, e_bl, e_and, e_or, e_not, e_andV, e_orV, e_notV, e_if, e_chain, e_nop, e_part, e_sl, e_iSeq, e_iR1, e_iR2, rngOk_of, rngOk2_of, e_for, e_lc, e_yes, e_mt, e_mt2, e_join, e_put, e_fits, Tg.put, TgL.puts, ip]
  have k2 : oList false [ip w] m = .ok (.lst (w.map .int)) m := by simp [mkL_f, mkL_t, wipeP, mulOk, lw_l, lw_c, lv_l, lv_c, lv_x, sv_l, sv_c, sv_x, sv_t, lw_i, lw_s, lw_t, lv_s, lv_t, lv_i, lv_n, add_ii, add_ss, add_tt, add_ll, add_lc, add_cl, add_cc, sub_ii, plus_ii, mul_ii, mul_li, fdv_ii, mod_ii, pow_ii, neg_i, sh_i, sh_s, sh_t, sh_l, sh_n, sh_b, sh_c, eq_nn, ne_nn, eq_ni, ne_ni, eq_in, ne_in, eq_nb, ne_nb, eq_bn, ne_bn, eq_ns, ne_ns, eq_sn, ne_sn, eq_ii, ne_ii, eq_bb, ne_bb, eq_ss, ne_ss, eq_is, ne_is, eq_si, ne_si, eq_bs, ne_bs, eq_sb, ne_sb, isn_n, non_n, isn_i, non_i, isn_b, non_b, isn_s, non_s, isn_t, non_t, isn_l, non_l, isn_c, non_c, isn_x, non_x, tru_n, tru_b, tru_i, tru_t, tru_l, notv_b, ix_t, ix_s, ix_l, ix_x, ix_c, ixl_c, sl_t, sl_s, sl_l, sl_c, rev_l, rev_c, len_t, len_l, len_x, len_s, len_c, list_t, list_l, list_x, list_c, tuple_t, tuple_l, tuple_c, int_i, int_b, abs_i, ord_s, isi_n, isi_b, isi_i, isi_s, isi_t, isi_l, isi_c, kindc, max_ii, min_ii, app_c, ext_c, set_c, sidx_ss, cm_ii, cm_ile, cm_igt, cm_ige, isl_l, isl_c, isl_s, iss_s, iss_l, b_ok, b_st, b_ex, o_ok, o_st, o_ex, c_ok, c_st, c_ex, fin_rt, fin_nx, fin_st, nx_nx, nx_rt, nx_bk, nx_ct, nx_ex, nx_st, e_seq, e_var, e_c, e_op, e_un, e_nil, e_cons, e_call, e_tup, e_lst, e_otup, e_olst, e_gd, e_asg, e_drop, e_ret, e_retN, e_next, e_brk, e_cont, e_ifs, e_setS, e_aug, e_augS, e_tru, e_bl, e_and, e_or, e_not, e_andV, e_orV, e_notV, e_if, e_chain, e_nop, e_part, e_sl, e_iSeq, e_iR1, e_iR2, rngOk_of, rngOk2_of, e_for, e_lc, e_yes, e_mt, e_mt2, e_join, e_put, e_fits, Tg.put, TgL.puts, ip]
  have f1 : ∀ d : P, oLst false [d] m = .ok (.lst [d]) m := fun d => by rw [e_olst, if_pos (fits_of (by show 1 ≤ 100000; decide)), mkL_f]
  simp only [e_op, e_lst, e_call, e_cons, e_var, List.getElem?_cons_succ, List.getElem?_cons_zero, b_ok, e_nil, l1, l2, k1, k2, f1]
  rw [addL (by simp; omega)]
  simp only [b_ok, l2, f1]
  rw [addL (by simp; omega)]
  simp only [b_ok, k2]
  rw [addL (by simp; omega), o_ok, fin_rt, cut_tree0 (by simp), c_ok]
  simp [blP, entB, lenI, hwE]
theorem child_bytes_k {c : List Int × Int} (h1 : c.1.length ≤ 300) (m : M) : f_child_bytes [chiP c] m = .ok (blP (chiB c)) m := by
  obtain ⟨k, n⟩ := c
  simp only at h1
  unfold f_child_bytes fnC fnF fb_child_bytes
  simp only [startP, List.map_cons, List.map_nil, List.length_cons, List.length_nil]
  rw [show (List.replicate (3 - (0 + 1)) (none : Option P)) = [none, none] from rfl]
  simp only [List.cons_append, List.nil_append]
  rw [e_seq, e_asg]
  simp only [e_var, List.getElem?_cons_zero, o_ok, chiP, Tg.put, TgL.puts, List.set_cons_succ, List.set_cons_zero]
  rw [nx_nx, e_ret]
  have l1 : oLen [ip k] m = .ok (.int (k.length : Int)) m := by simp [mkL_f, mkL_t, wipeP, mulOk, lw_l, lw_c, lv_l, lv_c, lv_x, sv_l, sv_c, sv_x, sv_t, lw_i, lw_s, lw_t, lv_s, lv_t, lv_i, lv_n, add_ii, add_ss, add_tt, add_ll, add_lc, add_cl, add_cc, sub_ii, plus_ii, mul_ii, mul_li, fdv_ii, mod_ii, pow_ii, neg_i, sh_i, sh_s, sh_t, sh_l, sh_n, sh_b, sh_c, eq_nn, ne_nn, eq_ni, ne_ni, eq_in, ne_in, eq_nb, ne_nb, eq_bn, ne_bn, eq_ns, ne_ns, eq_sn, ne_sn, eq_ii, ne_ii, eq_bb, ne_bb, eq_ss, ne_ss, eq_is, ne_is, eq_si, ne_si, eq_bs, ne_bs, eq_sb, ne_sb, isn_n, non_n, isn_i, non_i, isn_b, non_b, isn_s, non_s, isn_t, non_t, isn_l, non_l, isn_c, non_c, isn_x, non_x, tru_n, tru_b, tru_i, tru_t, tru_l, notv_b, ix_t, ix_s, ix_l, ix_x, ix_c, ixl_c, sl_t, sl_s, sl_l, sl_c, rev_l, rev_c, len_t, len_l, len_x, len_s, len_c, list_t, list_l, list_x, list_c, tuple_t, tuple_l, tuple_c, int_i, int_b, abs_i, ord_s, isi_n, isi_b, isi_i, isi_s, isi_t, isi_l, isi_c, kindc, max_ii, min_ii, app_c, ext_c, set_c, sidx_ss, cm_ii, cm_ile, cm_igt, cm_ige, isl_l, isl_c, isl_s, iss_s, iss_l, b_ok, b_st, b_ex, o_ok, o_st, o_ex, c_ok, c_st, c_ex, fin_rt, fin_nx, fin_st, nx_nx, nx_rt, nx_bk, nx_ct, nx_ex, nx_st, e_seq, e_var, e_c, e_op, e_un, e_nil, e_cons, e_call, e_tup, e_lst, e_otup, e_olst, e_gd, e_asg, e_drop, e_ret, e_retN, e_next, e_brk, e_cont, e_ifs, e_setS, e_aug, e_augS, e_tru, e_bl, e_and, e_or, e_not, e_andV, e_orV, e_notV, e_if, e_chain, e_nop, e_part, e_sl, e_iSeq, e_iR1, e_iR2, rngOk_of, rngOk2_of, e_for, e_lc, e_yes, e_mt, e_mt2, e_join, e_put, e_fits, Tg.put, TgL.puts, ip]
  have k1 : oList false [ip k] m = .ok (.lst (k.map .int)) m := by simp [mkL_f, mkL_t, wipeP, mulOk, lw_l, lw_c, lv_l, lv_c, lv_x, sv_l, sv_c, sv_x, sv_t, lw_i, lw_s, lw_t, lv_s, lv_t, lv_i, lv_n, add_ii, add_ss, add_tt, add_ll, add_lc, add_cl, add_cc, sub_ii, plus_ii, mul_ii, mul_li, fdv_ii, mod_ii, pow_ii, neg_i, sh_i, sh_s, sh_t, sh_l, sh_n, sh_b, sh_c, eq_nn, ne_nn, eq_ni, ne_ni, eq_in, ne_in, eq_nb, ne_nb, eq_bn, ne_bn, eq_ns, ne_ns, eq_sn, ne_sn, eq_ii, ne_ii, eq_bb, ne_bb, eq_ss, ne_ss, eq_is, ne_is, eq_si, ne_si, eq_bs, ne_bs, eq_sb, ne_sb, isn_n, non_n, isn_i, non_i, isn_b, non_b, isn_s, non_s, isn_t, non_t, isn_l, non_l, isn_c, non_c, isn_x, non_x, tru_n, tru_b, tru_i, tru_t, tru_l, notv_b, ix_t, ix_s, ix_l, ix_x, ix_c, ixl_c, sl_t, sl_s, sl_l, sl_c, rev_l, rev_c, len_t, len_l, len_x, len_s, len_c, list_t, list_l, list_x, list_c, tuple_t, tuple_l, tuple_c, int_i, int_b, abs_i, ord_s, isi_n, isi_b, isi_i, isi_s, isi_t, isi_l, isi_c, kindc, max_ii, min_ii, app_c, ext_c, set_c, sidx_ss, cm_ii, cm_ile, cm_igt, cm_ige, isl_l, isl_c, isl_s, iss_s, iss_l, b_ok, b_st, b_ex, o_ok, o_st, o_ex, c_ok, c_st, c_ex, fin_rt, fin_nx, fin_st, nx_nx, nx_rt, nx_bk, nx_ct, nx_ex, nx_st, e_seq, e_var, e_c, e_op, e_un, e_nil, e_cons, e_call, e_tup, e_lst, e_otup, e_olst, e_gd, e_asg, e_drop, e_ret, e_retN, e_next, e_brk, e_cont, e_ifs, e_setS, e_aug, e_augS, e_tru, e_bl, e_and, e_or, e_not, e_andV, e_orV, e_notV, e_if, e_chain, e_nop, e_part, e_sl, e_iSeq, e_iR1, e_iR2, rngOk_of, rngOk2_of, e_for, e_lc, e_yes, e_mt, e_mt2, e_join, e_put, e_fits, Tg.put, TgL.puts, ip]
  have f1 : ∀ a b c : P, oLst false [a, b, c] m = .ok (.lst [a, b, c]) m := fun a b c => by rw [e_olst, if_pos (fits_of (by show 3 ≤ 100000; decide)), mkL_f]
  have d1 : oFdv (.int n) (.int 256) m = .ok (.int (n / 256)) m := by rw [fdv_ii, if_pos (by decide)]
  have d2 : oMod (.int n) (.int 256) m = .ok (.int (n % 256)) m := by rw [mod_ii, if_pos (by decide)]
  simp only [e_op, e_lst, e_call, e_cons, e_var, e_c, List.getElem?_cons_succ, List.getElem?_cons_zero, b_ok, e_nil, l1, k1, f1, d1, d2]
  rw [addL (by simp; omega), o_ok, fin_rt, cut_tree0 (by simp), c_ok]
  simp [blP, chiB, lenI]
theorem entB_len {e : List Int × List Kv} (h1 : e.1.length ≤ 300) (h2 : e.2.length ≤ 20) (h3 : ∀ v ∈ e.2, v.Good) : (entB e).length ≤ 500 := by
  have := keyB_len h3
  simp only [entB, List.length_cons, List.length_append]
  omega
theorem chiB_len {c : List Int × Int} (h1 : c.1.length ≤ 300) : (chiB c).length ≤ 500 := by
  simp only [chiB, List.length_cons]
  omega
theorem flatB_len {α : Type} {f : α → List Int} : ∀ {xs : List α}, (∀ x ∈ xs, (f x).length ≤ 500) → (flatB f xs).length ≤ 500 * xs.length
  | [], _ => Nat.le_refl _
  | x :: xs, h => by
    have h1 := h x List.mem_cons_self
    have h2 := flatB_len (xs := xs) fun y hy => h y (List.mem_cons_of_mem _ hy)
    rw [flatB, List.length_append, List.length_cons]; omega

end
/-! PR -/
section
open PySem PySem.Spec PyProof.Rows
/-! PR: the reader of pages -/
def rdr (bs : List Int) (a : Nat) : Cell := .ins "PageReader" [("data", blP bs), ("at", .int a)]
theorem rd_data {x y : P} : fget "data" [("data", x), ("at", y)] = some x := by simp [fget]
theorem rd_at {x y : P} : fget "at" [("data", x), ("at", y)] = some y := by simp [fget, sn_data_at]
theorem rd_put {x y z : P} : fput "at" z [("data", x), ("at", y)] = ([("data", x), ("at", z)] : List (Str × P)) := by simp [fput, sn_data_at]
theorem rd_m1 {x y : P} : fget "need" [("data", x), ("at", y)] = none := by simp [fget, sn_data_need, sn_at_need]
theorem rd_m2 {x y : P} : fget "read_bytes" [("data", x), ("at", y)] = none := by simp [fget, sn_data_read_bytes, sn_at_read_bytes]
theorem rd_m3 {x y : P} : fget "read_byte" [("data", x), ("at", y)] = none := by simp [fget, sn_data_read_byte, sn_at_read_byte]
theorem rd_m4 {x y : P} : fget "read_key" [("data", x), ("at", y)] = none := by simp [fget, sn_data_read_key, sn_at_read_key]
theorem rd_m5 {x y : P} : fget "read_entry" [("data", x), ("at", y)] = none := by simp [fget, sn_data_read_entry, sn_at_read_entry]
theorem rd_m6 {x y : P} : fget "read_child" [("data", x), ("at", y)] = none := by simp [fget, sn_data_read_child, sn_at_read_child]
theorem rd_m7 {x y : P} : fget "read_end" [("data", x), ("at", y)] = none := by simp [fget, sn_data_read_end, sn_at_read_end]
theorem a0 (d : P) (ρ : Env) {m : M} : fVar 0 (some d :: ρ) m = .ok d m := rfl
theorem cut0 {m : M} {d : P} (hd : P.under m.length d = true) : cutV' m d m = .ok d m := by
  exact cut_tree0 hd
theorem need_t (n : Nat) (m : M) : f_PageReader_need [.cell n, .bl true] m = .ok .non m := by
  unfold f_PageReader_need fnF fb_PageReader_need
  simp [mkL_f, mkL_t, wipeP, mulOk, lw_l, lw_c, lv_l, lv_c, lv_x, sv_l, sv_c, sv_x, sv_t, lw_i, lw_s, lw_t, lv_s, lv_t, lv_i, lv_n, add_ii, add_ss, add_tt, add_ll, add_lc, add_cl, add_cc, sub_ii, plus_ii, mul_ii, mul_li, fdv_ii, mod_ii, pow_ii, neg_i, sh_i, sh_s, sh_t, sh_l, sh_n, sh_b, sh_c, eq_nn, ne_nn, eq_ni, ne_ni, eq_in, ne_in, eq_nb, ne_nb, eq_bn, ne_bn, eq_ns, ne_ns, eq_sn, ne_sn, eq_ii, ne_ii, eq_bb, ne_bb, eq_ss, ne_ss, eq_is, ne_is, eq_si, ne_si, eq_bs, ne_bs, eq_sb, ne_sb, isn_n, non_n, isn_i, non_i, isn_b, non_b, isn_s, non_s, isn_t, non_t, isn_l, non_l, isn_c, non_c, isn_x, non_x, tru_n, tru_b, tru_i, tru_t, tru_l, notv_b, ix_t, ix_s, ix_l, ix_x, ix_c, ixl_c, sl_t, sl_s, sl_l, sl_c, rev_l, rev_c, len_t, len_l, len_x, len_s, len_c, list_t, list_l, list_x, list_c, tuple_t, tuple_l, tuple_c, int_i, int_b, abs_i, ord_s, isi_n, isi_b, isi_i, isi_s, isi_t, isi_l, isi_c, kindc, max_ii, min_ii, app_c, ext_c, set_c, sidx_ss, cm_ii, cm_ile, cm_igt, cm_ige, isl_l, isl_c, isl_s, iss_s, iss_l, b_ok, b_st, b_ex, o_ok, o_st, o_ex, c_ok, c_st, c_ex, fin_rt, fin_nx, fin_st, nx_nx, nx_rt, nx_bk, nx_ct, nx_ex, nx_st, e_seq, e_var, e_c, e_op, e_un, e_nil, e_cons, e_call, e_tup, e_lst, e_otup, e_olst, e_gd, e_asg, e_drop, e_ret, e_retN, e_next, e_brk, e_cont, e_ifs, e_setS, e_aug, e_augS, e_tru, e_bl, e_and, e_or, e_not, e_andV, e_orV, e_notV, e_if, e_chain, e_nop, e_part, e_sl, e_iSeq, e_iR1, e_iR2, rngOk_of, rngOk2_of, e_for, e_lc, e_yes, e_mt, e_mt2, e_join, e_put, e_fits, Tg.put, TgL.puts, startP]
  exact cut0 (by simp)
theorem need_f (n : Nat) (m : M) : f_PageReader_need [.cell n, .bl false] m = .exc "DamagedData" [] m := by
  unfold f_PageReader_need fnF fb_PageReader_need
  simp [mkL_f, mkL_t, wipeP, mulOk, lw_l, lw_c, lv_l, lv_c, lv_x, sv_l, sv_c, sv_x, sv_t, lw_i, lw_s, lw_t, lv_s, lv_t, lv_i, lv_n, add_ii, add_ss, add_tt, add_ll, add_lc, add_cl, add_cc, sub_ii, plus_ii, mul_ii, mul_li, fdv_ii, mod_ii, pow_ii, neg_i, sh_i, sh_s, sh_t, sh_l, sh_n, sh_b, sh_c, eq_nn, ne_nn, eq_ni, ne_ni, eq_in, ne_in, eq_nb, ne_nb, eq_bn, ne_bn, eq_ns, ne_ns, eq_sn, ne_sn, eq_ii, ne_ii, eq_bb, ne_bb, eq_ss, ne_ss, eq_is, ne_is, eq_si, ne_si, eq_bs, ne_bs, eq_sb, ne_sb, isn_n, non_n, isn_i, non_i, isn_b, non_b, isn_s, non_s, isn_t, non_t, isn_l, non_l, isn_c, non_c, isn_x, non_x, tru_n, tru_b, tru_i, tru_t, tru_l, notv_b, ix_t, ix_s, ix_l, ix_x, ix_c, ixl_c, sl_t, sl_s, sl_l, sl_c, rev_l, rev_c, len_t, len_l, len_x, len_s, len_c, list_t, list_l, list_x, list_c, tuple_t, tuple_l, tuple_c, int_i, int_b, abs_i, ord_s, isi_n, isi_b, isi_i, isi_s, isi_t, isi_l, isi_c, kindc, max_ii, min_ii, app_c, ext_c, set_c, sidx_ss, cm_ii, cm_ile, cm_igt, cm_ige, isl_l, isl_c, isl_s, iss_s, iss_l, b_ok, b_st, b_ex, o_ok, o_st, o_ex, c_ok, c_st, c_ex, fin_rt, fin_nx, fin_st, nx_nx, nx_rt, nx_bk, nx_ct, nx_ex, nx_st, e_seq, e_var, e_c, e_op, e_un, e_nil, e_cons, e_call, e_tup, e_lst, e_otup, e_olst, e_gd, e_asg, e_drop, e_ret, e_retN, e_next, e_brk, e_cont, e_ifs, e_setS, e_aug, e_augS, e_tru, e_bl, e_and, e_or, e_not, e_andV, e_orV, e_notV, e_if, e_chain, e_nop, e_part, e_sl, e_iSeq, e_iR1, e_iR2, rngOk_of, rngOk2_of, e_for, e_lc, e_yes, e_mt, e_mt2, e_join, e_put, e_fits, Tg.put, TgL.puts, startP, e_raise, fin_ex, cutX_nil OkCut.refl]
theorem read_bytes_k {n : Nat} {m : M} {bs : List Int} {a : Nat} (h : m[n]? = some (rdr bs a)) (hb : bs.length ≤ 1000) (k : Nat) : f_PageReader_read_bytes [.cell n, .int k] m = if a + k ≤ bs.length then .ok (ip ((bs.drop a).take k)) (m.set n (rdr bs (a + k))) else .exc "DamagedData" [] m := by
  have hn : n < m.length := (List.getElem?_eq_some_iff.mp h).1
  have hf : bs.length ≤ 100000 := by omega
  unfold rdr at h
  unfold f_PageReader_read_bytes fnF fb_PageReader_read_bytes
  have h2 : ∀ c, (m.set n c)[n]? = some c := fun c => List.getElem?_set_self hn
  have a1 : (fCons (fOp (oCm .le) (fOp (oAdd false) (fFld "PageReader" "at" (fVar 0)) (fVar 1)) (fCall oLen (fCons (fFld "PageReader" "data" (fVar 0)) fNil))) fNil) [some (.cell n), some (.int k)] m = .ok [.bl (decide (a + k ≤ bs.length))] m := by
    simp [mkL_f, mkL_t, wipeP, mulOk, lw_l, lw_c, lv_l, lv_c, lv_x, sv_l, sv_c, sv_x, sv_t, lw_i, lw_s, lw_t, lv_s, lv_t, lv_i, lv_n, add_ii, add_ss, add_tt, add_ll, add_lc, add_cl, add_cc, sub_ii, plus_ii, mul_ii, mul_li, fdv_ii, mod_ii, pow_ii, neg_i, sh_i, sh_s, sh_t, sh_l, sh_n, sh_b, sh_c, eq_nn, ne_nn, eq_ni, ne_ni, eq_in, ne_in, eq_nb, ne_nb, eq_bn, ne_bn, eq_ns, ne_ns, eq_sn, ne_sn, eq_ii, ne_ii, eq_bb, ne_bb, eq_ss, ne_ss, eq_is, ne_is, eq_si, ne_si, eq_bs, ne_bs, eq_sb, ne_sb, isn_n, non_n, isn_i, non_i, isn_b, non_b, isn_s, non_s, isn_t, non_t, isn_l, non_l, isn_c, non_c, isn_x, non_x, tru_n, tru_b, tru_i, tru_t, tru_l, notv_b, ix_t, ix_s, ix_l, ix_x, ix_c, ixl_c, sl_t, sl_s, sl_l, sl_c, rev_l, rev_c, len_t, len_l, len_x, len_s, len_c, list_t, list_l, list_x, list_c, tuple_t, tuple_l, tuple_c, int_i, int_b, abs_i, ord_s, isi_n, isi_b, isi_i, isi_s, isi_t, isi_l, isi_c, kindc, max_ii, min_ii, app_c, ext_c, set_c, sidx_ss, cm_ii, cm_ile, cm_igt, cm_ige, isl_l, isl_c, isl_s, iss_s, iss_l, b_ok, b_st, b_ex, o_ok, o_st, o_ex, c_ok, c_st, c_ex, fin_rt, fin_nx, fin_st, nx_nx, nx_rt, nx_bk, nx_ct, nx_ex, nx_st, e_seq, e_var, e_c, e_op, e_un, e_nil, e_cons, e_call, e_tup, e_lst, e_otup, e_olst, e_gd, e_asg, e_drop, e_ret, e_retN, e_next, e_brk, e_cont, e_ifs, e_setS, e_aug, e_augS, e_tru, e_bl, e_and, e_or, e_not, e_andV, e_orV, e_notV, e_if, e_chain, e_nop, e_part, e_sl, e_iSeq, e_iR1, e_iR2, rngOk_of, rngOk2_of, e_for, e_lc, e_yes, e_mt, e_mt2, e_join, e_put, e_fits, Tg.put, TgL.puts, e_fld, fld_at h rd_at, fld_at h rd_data, blP, hf]
    omega
  by_cases hc : a + k ≤ bs.length
  · rw [if_pos hc]
    rw [decide_eq_true hc] at a1
    have e1 : (fDrop (fMeth "PageReader" "need" 2 f_PageReader_need (fVar 0) (fCons (fOp (oCm .le) (fOp (oAdd false) (fFld "PageReader" "at" (fVar 0)) (fVar 1)) (fCall oLen (fCons (fFld "PageReader" "data" (fVar 0)) fNil))) fNil))) [some (.cell n), some (.int k)] m = .nx [some (.cell n), some (.int k)] m := by
      rw [e_drop, e_methC (k := 2) (n := n) (m1 := m) (a0 _ _) h rd_m1 a1 rfl, need_t]; rfl
    simp only [startP, List.map_cons, List.map_nil, List.length_cons, List.length_nil, Nat.sub_self, List.replicate_zero, List.append_nil]
    rw [e_seq, e1, nx_nx]
    have e2 : (fAugF "PageReader" "at" (fVar 0) oPlus (fVar 1)) [some (.cell n), some (.int k)] m = .nx [some (.cell n), some (.int k)] (m.set n (rdr bs (a + k))) := by
      simp [mkL_f, mkL_t, wipeP, mulOk, lw_l, lw_c, lv_l, lv_c, lv_x, sv_l, sv_c, sv_x, sv_t, lw_i, lw_s, lw_t, lv_s, lv_t, lv_i, lv_n, add_ii, add_ss, add_tt, add_ll, add_lc, add_cl, add_cc, sub_ii, plus_ii, mul_ii, mul_li, fdv_ii, mod_ii, pow_ii, neg_i, sh_i, sh_s, sh_t, sh_l, sh_n, sh_b, sh_c, eq_nn, ne_nn, eq_ni, ne_ni, eq_in, ne_in, eq_nb, ne_nb, eq_bn, ne_bn, eq_ns, ne_ns, eq_sn, ne_sn, eq_ii, ne_ii, eq_bb, ne_bb, eq_ss, ne_ss, eq_is, ne_is, eq_si, ne_si, eq_bs, ne_bs, eq_sb, ne_sb, isn_n, non_n, isn_i, non_i, isn_b, non_b, isn_s, non_s, isn_t, non_t, isn_l, non_l, isn_c, non_c, isn_x, non_x, tru_n, tru_b, tru_i, tru_t, tru_l, notv_b, ix_t, ix_s, ix_l, ix_x, ix_c, ixl_c, sl_t, sl_s, sl_l, sl_c, rev_l, rev_c, len_t, len_l, len_x, len_s, len_c, list_t, list_l, list_x, list_c, tuple_t, tuple_l, tuple_c, int_i, int_b, abs_i, ord_s, isi_n, isi_b, isi_i, isi_s, isi_t, isi_l, isi_c, kindc, max_ii, min_ii, app_c, ext_c, set_c, sidx_ss, cm_ii, cm_ile, cm_igt, cm_ige, isl_l, isl_c, isl_s, iss_s, iss_l, b_ok, b_st, b_ex, o_ok, o_st, o_ex, c_ok, c_st, c_ex, fin_rt, fin_nx, fin_st, nx_nx, nx_rt, nx_bk, nx_ct, nx_ex, nx_st, e_seq, e_var, e_c, e_op, e_un, e_nil, e_cons, e_call, e_tup, e_lst, e_otup, e_olst, e_gd, e_asg, e_drop, e_ret, e_retN, e_next, e_brk, e_cont, e_ifs, e_setS, e_aug, e_augS, e_tru, e_bl, e_and, e_or, e_not, e_andV, e_orV, e_notV, e_if, e_chain, e_nop, e_part, e_sl, e_iSeq, e_iR1, e_iR2, rngOk_of, rngOk2_of, e_for, e_lc, e_yes, e_mt, e_mt2, e_join, e_put, e_fits, Tg.put, TgL.puts, e_augF, fld_at h rd_at, putF_at h, rd_put, rdr]
    rw [e_seq, e2, nx_nx]
    have h3 := h2 (rdr bs (a + k))
    have ok : OkCut m (m.set n (rdr bs (a + k))) := OkCut.refl.set (by simp [rdr, Cell.under, blP])
    have hl : (m.set n (rdr bs (a + k))).length = m.length := List.length_set ..
    generalize m.set n (rdr bs (a + k)) = m2 at *
    unfold rdr at h3
    have e3 : (fRet (fCall oTuple (fCons (fSl false (fFld "PageReader" "data" (fVar 0)) (fPart (fOp oSub (fFld "PageReader" "at" (fVar 0)) (fVar 1))) (fPart (fFld "PageReader" "at" (fVar 0)))) fNil))) [some (.cell n), some (.int k)] m2 = .rt (ip ((bs.drop a).take k)) m2 := by
      have q : ((a : Int) + (k : Int)) - (k : Int) = (a : Int) := by omega
      have q2 : ((a + k : Nat) : Int) - (k : Int) = (a : Int) := by omega
      have c := cut_nat bs a k
      have c2 : cutL (bs.map P.int) (some (a : Int)) (some ((a : Int) + (k : Int))) = ((bs.drop a).take k).map .int := by rw [cut_map, c]
      have c3 : ((bs.drop a).take k).length ≤ 100000 := by rw [List.length_take, List.length_drop]; omega
      simp [mkL_f, mkL_t, wipeP, mulOk, lw_l, lw_c, lv_l, lv_c, lv_x, sv_l, sv_c, sv_x, sv_t, lw_i, lw_s, lw_t, lv_s, lv_t, lv_i, lv_n, add_ii, add_ss, add_tt, add_ll, add_lc, add_cl, add_cc, sub_ii, plus_ii, mul_ii, mul_li, fdv_ii, mod_ii, pow_ii, neg_i, sh_i, sh_s, sh_t, sh_l, sh_n, sh_b, sh_c, eq_nn, ne_nn, eq_ni, ne_ni, eq_in, ne_in, eq_nb, ne_nb, eq_bn, ne_bn, eq_ns, ne_ns, eq_sn, ne_sn, eq_ii, ne_ii, eq_bb, ne_bb, eq_ss, ne_ss, eq_is, ne_is, eq_si, ne_si, eq_bs, ne_bs, eq_sb, ne_sb, isn_n, non_n, isn_i, non_i, isn_b, non_b, isn_s, non_s, isn_t, non_t, isn_l, non_l, isn_c, non_c, isn_x, non_x, tru_n, tru_b, tru_i, tru_t, tru_l, notv_b, ix_t, ix_s, ix_l, ix_x, ix_c, ixl_c, sl_t, sl_s, sl_l, sl_c, rev_l, rev_c, len_t, len_l, len_x, len_s, len_c, list_t, list_l, list_x, list_c, tuple_t, tuple_l, tuple_c, int_i, int_b, abs_i, ord_s, isi_n, isi_b, isi_i, isi_s, isi_t, isi_l, isi_c, kindc, max_ii, min_ii, app_c, ext_c, set_c, sidx_ss, cm_ii, cm_ile, cm_igt, cm_ige, isl_l, isl_c, isl_s, iss_s, iss_l, b_ok, b_st, b_ex, o_ok, o_st, o_ex, c_ok, c_st, c_ex, fin_rt, fin_nx, fin_st, nx_nx, nx_rt, nx_bk, nx_ct, nx_ex, nx_st, e_seq, e_var, e_c, e_op, e_un, e_nil, e_cons, e_call, e_tup, e_lst, e_otup, e_olst, e_gd, e_asg, e_drop, e_ret, e_retN, e_next, e_brk, e_cont, e_ifs, e_setS, e_aug, e_augS, e_tru, e_bl, e_and, e_or, e_not, e_andV, e_orV, e_notV, e_if, e_chain, e_nop, e_part, e_sl, e_iSeq, e_iR1, e_iR2, rngOk_of, rngOk2_of, e_for, e_lc, e_yes, e_mt, e_mt2, e_join, e_put, e_fits, Tg.put, TgL.puts, e_fld, fld_at h3 rd_at, fld_at h3 rd_data, blP, q, q2, ip]
      rw [c2, List.map_take, List.map_drop]
    rw [e3, fin_rt, cut_at ok (by rw [ip, un_tup]; exact uns_ints), ← hl, List.take_length]
  · rw [if_neg hc]
    rw [decide_eq_false hc] at a1
    have e1 : (fDrop (fMeth "PageReader" "need" 2 f_PageReader_need (fVar 0) (fCons (fOp (oCm .le) (fOp (oAdd false) (fFld "PageReader" "at" (fVar 0)) (fVar 1)) (fCall oLen (fCons (fFld "PageReader" "data" (fVar 0)) fNil))) fNil))) [some (.cell n), some (.int k)] m = .exc "DamagedData" [] [some (.cell n), some (.int k)] m := by
      rw [e_drop, e_methC (k := 2) (n := n) (m1 := m) (a0 _ _) h rd_m1 a1 rfl, need_f]; rfl
    simp only [startP, List.map_cons, List.map_nil, List.length_cons, List.length_nil, Nat.sub_self, List.replicate_zero, List.append_nil]
    rw [e_seq, e1, nx_ex, fin_ex, cutX_nil OkCut.refl, List.take_length]

/-- what a reader's method tells: the value and where it stands, or damage -/
def Rdo {β : Type} (n : Nat) (bs : List Int) (m : M) (f : β → P) (r : Option (β × Nat)) (out : Res P) : Prop := match r with
  | some (x, a) => out = .ok (f x) (m.set n (rdr bs a))
  | none => ∃ a, out = .exc "DamagedData" [] (m.set n (rdr bs a))
theorem set_self {m : M} {n : Nat} {c : Cell} (h : m[n]? = some c) : m.set n c = m := by
  obtain ⟨hn, e⟩ := List.getElem?_eq_some_iff.mp h
  rw [← e]; exact List.set_getElem_self hn
def rBytes (bs : List Int) (a k : Nat) : Option (List Int × Nat) := if a + k ≤ bs.length then some ((bs.drop a).take k, a + k) else none
def rByte (bs : List Int) (a : Nat) : Option (Int × Nat) := match bs[a]? with
  | some x => some (x, a + 1)
  | none => none
def rKey (bs : List Int) (a : Nat) : Option (List Int × Nat) := match rByte bs a with
  | some (x, a1) => rBytes bs a1 x.toNat
  | none => none
theorem read_bytes_r {n : Nat} {m : M} {bs : List Int} {a : Nat} (h : m[n]? = some (rdr bs a)) (hb : bs.length ≤ 1000) (k : Nat) : Rdo n bs m ip (rBytes bs a k) (f_PageReader_read_bytes [.cell n, .int k] m) := by
  rw [read_bytes_k h hb k]
  unfold rBytes
  by_cases hc : a + k ≤ bs.length
  · rw [if_pos hc, if_pos hc]; rfl
  · rw [if_neg hc, if_neg hc]; exact ⟨a, by rw [set_self h]⟩
theorem under_rdr {n : Nat} {bs : List Int} {a : Nat} : (rdr bs a).under n = true := by simp [rdr, Cell.under, blP]
theorem okRdr {n : Nat} {m : M} {bs : List Int} {a : Nat} : OkCut m (m.set n (rdr bs a)) := OkCut.refl.set under_rdr
theorem take_set {n : Nat} {m : M} {c : Cell} : (m.set n c).take m.length = m.set n c := by
  have : (m.set n c).length = m.length := List.length_set ..
  rw [← this, List.take_length]
theorem cut_rdr {n : Nat} {m : M} {bs : List Int} {a : Nat} {d : P} (hd : P.under m.length d = true) : cutV' m d (m.set n (rdr bs a)) = .ok d (m.set n (rdr bs a)) := by
  rw [cut_at okRdr hd, take_set]
theorem cutX_rdr {n : Nat} {m : M} {bs : List Int} {a : Nat} {c : Str} : cutX m c [] (m.set n (rdr bs a)) = .exc c [] (m.set n (rdr bs a)) := by
  rw [cutX_nil okRdr, take_set]
theorem read_byte_k {n : Nat} {m : M} {bs : List Int} {a : Nat} (h : m[n]? = some (rdr bs a)) (hb : bs.length ≤ 1000) : Rdo n bs m .int (rByte bs a) (f_PageReader_read_byte [.cell n] m) := by
  have r : f_PageReader_read_bytes [.cell n, .int 1] m = _ := read_bytes_k h hb 1
  unfold f_PageReader_read_byte fnF fb_PageReader_read_byte rByte
  have h' := h
  unfold rdr at h
  have e : (fMeth "PageReader" "read_bytes" 2 f_PageReader_read_bytes (fVar 0) (fCons (fC (.int 1)) fNil)) [some (.cell n)] m = f_PageReader_read_bytes [.cell n, .int 1] m := by
    rw [e_methC (k := 2) (n := n) (m1 := m) (ds := [.int 1]) (m2 := m) (a0 _ _) h rd_m2 (by simp [mkL_f, mkL_t, wipeP, mulOk, lw_l, lw_c, lv_l, lv_c, lv_x, sv_l, sv_c, sv_x, sv_t, lw_i, lw_s, lw_t, lv_s, lv_t, lv_i, lv_n, add_ii, add_ss, add_tt, add_ll, add_lc, add_cl, add_cc, sub_ii, plus_ii, mul_ii, mul_li, fdv_ii, mod_ii, pow_ii, neg_i, sh_i, sh_s, sh_t, sh_l, sh_n, sh_b, sh_c, eq_nn, ne_nn, eq_ni, ne_ni, eq_in, ne_in, eq_nb, ne_nb, eq_bn, ne_bn, eq_ns, ne_ns, eq_sn, ne_sn, eq_ii, ne_ii, eq_bb, ne_bb, eq_ss, ne_ss, eq_is, ne_is, eq_si, ne_si, eq_bs, ne_bs, eq_sb, ne_sb, isn_n, non_n, isn_i, non_i, isn_b, non_b, isn_s, non_s, isn_t, non_t, isn_l, non_l, isn_c, non_c, isn_x, non_x, tru_n, tru_b, tru_i, tru_t, tru_l, notv_b, ix_t, ix_s, ix_l, ix_x, ix_c, ixl_c, sl_t, sl_s, sl_l, sl_c, rev_l, rev_c, len_t, len_l, len_x, len_s, len_c, list_t, list_l, list_x, list_c, tuple_t, tuple_l, tuple_c, int_i, int_b, abs_i, ord_s, isi_n, isi_b, isi_i, isi_s, isi_t, isi_l, isi_c, kindc, max_ii, min_ii, app_c, ext_c, set_c, sidx_ss, cm_ii, cm_ile, cm_igt, cm_ige, isl_l, isl_c, isl_s, iss_s, iss_l, b_ok, b_st, b_ex, o_ok, o_st, o_ex, c_ok, c_st, c_ex, fin_rt, fin_nx, fin_st, nx_nx, nx_rt, nx_bk, nx_ct, nx_ex, nx_st, e_seq, e_var, e_c, e_op, e_un, e_nil, e_cons, e_call, e_tup, e_lst, e_otup, e_olst, e_gd, e_asg, e_drop, e_ret, e_retN, e_next, e_brk, e_cont, e_ifs, e_setS, e_aug, e_augS, e_tru, e_bl, e_and, e_or, e_not, e_andV, e_orV, e_notV, e_if, e_chain, e_nop, e_part, e_sl, e_iSeq, e_iR1, e_iR2, rngOk_of, rngOk2_of, e_for, e_lc, e_yes, e_mt, e_mt2, e_join, e_put, e_fits, Tg.put, TgL.puts]) rfl]
  simp only [startP, List.map_cons, List.map_nil, List.length_cons, List.length_nil, Nat.sub_self, List.replicate_zero, List.append_nil]
  rw [e_ret, e_op, e]
  rw [r]
  by_cases hc : a + 1 ≤ bs.length
  · rw [if_pos hc]
    have g : bs[a]? = some bs[a] := List.getElem?_eq_getElem hc
    rw [g]
    have q : (bs.drop a).take 1 = [bs[a]] := by rw [List.drop_eq_getElem_cons hc]; rfl
    simp [mkL_f, mkL_t, wipeP, mulOk, lw_l, lw_c, lv_l, lv_c, lv_x, sv_l, sv_c, sv_x, sv_t, lw_i, lw_s, lw_t, lv_s, lv_t, lv_i, lv_n, add_ii, add_ss, add_tt, add_ll, add_lc, add_cl, add_cc, sub_ii, plus_ii, mul_ii, mul_li, fdv_ii, mod_ii, pow_ii, neg_i, sh_i, sh_s, sh_t, sh_l, sh_n, sh_b, sh_c, eq_nn, ne_nn, eq_ni, ne_ni, eq_in, ne_in, eq_nb, ne_nb, eq_bn, ne_bn, eq_ns, ne_ns, eq_sn, ne_sn, eq_ii, ne_ii, eq_bb, ne_bb, eq_ss, ne_ss, eq_is, ne_is, eq_si, ne_si, eq_bs, ne_bs, eq_sb, ne_sb, isn_n, non_n, isn_i, non_i, isn_b, non_b, isn_s, non_s, isn_t, non_t, isn_l, non_l, isn_c, non_c, isn_x, non_x, tru_n, tru_b, tru_i, tru_t, tru_l, notv_b, ix_t, ix_s, ix_l, ix_x, ix_c, ixl_c, sl_t, sl_s, sl_l, sl_c, rev_l, rev_c, len_t, len_l, len_x, len_s, len_c, list_t, list_l, list_x, list_c, tuple_t, tuple_l, tuple_c, int_i, int_b, abs_i, ord_s, isi_n, isi_b, isi_i, isi_s, isi_t, isi_l, isi_c, kindc, max_ii, min_ii, app_c, ext_c, set_c, sidx_ss, cm_ii, cm_ile, cm_igt, cm_ige, isl_l, isl_c, isl_s, iss_s, iss_l, b_ok, b_st, b_ex, o_ok, o_st, o_ex, c_ok, c_st, c_ex, fin_rt, fin_nx, fin_st, nx_nx, nx_rt, nx_bk, nx_ct, nx_ex, nx_st, e_seq, e_var, e_c, e_op, e_un, e_nil, e_cons, e_call, e_tup, e_lst, e_otup, e_olst, e_gd, e_asg, e_drop, e_ret, e_retN, e_next, e_brk, e_cont, e_ifs, e_setS, e_aug, e_augS, e_tru, e_bl, e_and, e_or, e_not, e_andV, e_orV, e_notV, e_if, e_chain, e_nop, e_part, e_sl, e_iSeq, e_iR1, e_iR2, rngOk_of, rngOk2_of, e_for, e_lc, e_yes, e_mt, e_mt2, e_join, e_put, e_fits, Tg.put, TgL.puts, q, ip, atI]
    exact cut_rdr un_int
  · rw [if_neg hc, b_ex, o_ex, fin_ex]
    have g : bs[a]? = none := List.getElem?_eq_none (by omega)
    rw [g]
    exact ⟨a, by rw [set_self h', cutX_nil OkCut.refl, List.take_length]⟩

theorem Rdo.put {β : Type} {n : Nat} {bs : List Int} {m : M} {c : Cell} {f : β → P} {r : Option (β × Nat)} {out : Res P} (w : Rdo n bs (m.set n c) f r out) : Rdo n bs m f r out := by
  cases r with
  | none =>
    obtain ⟨a, e⟩ := w
    exact ⟨a, by rw [e, List.set_set]⟩
  | some x =>
    have e : out = .ok (f x.1) ((m.set n c).set n (rdr bs x.2)) := w
    show out = .ok (f x.1) (m.set n (rdr bs x.2))
    rw [e, List.set_set]
theorem Rdo.ret {β : Type} {n : Nat} {bs : List Int} {m : M} {f : β → P} {r : Option (β × Nat)} {out : Res P} {ρ : Env} (hu : ∀ x, P.under m.length (f x) = true) (w : Rdo n bs m f r out) : Rdo n bs m f r (finish true m (out.outs ρ fun d m1 => .rt d m1)) := by
  cases r with
  | none =>
    obtain ⟨a, e⟩ := w
    exact ⟨a, by rw [e, o_ex, fin_ex, cutX_rdr]⟩
  | some x =>
    have e : out = .ok (f x.1) (m.set n (rdr bs x.2)) := w
    show finish _ _ _ = .ok (f x.1) (m.set n (rdr bs x.2))
    rw [e, o_ok, fin_rt, cut_rdr (hu _)]
theorem at_set {n : Nat} {m : M} {c c' : Cell} (h : m[n]? = some c) : (m.set n c')[n]? = some c' := List.getElem?_set_self (List.getElem?_eq_some_iff.mp h).1
theorem un_ip {n : Nat} {l : List Int} : P.under n (ip l) = true := by rw [ip, un_tup]; exact uns_ints
/-- the call of a reader's method without more arguments, in the plain env -/
theorem m_byte {n : Nat} {m : M} {bs : List Int} {a : Nat} (h : m[n]? = some (rdr bs a)) (ρ : Env) : fMeth "PageReader" "read_byte" 1 f_PageReader_read_byte (fVar 0) fNil (some (.cell n) :: ρ) m = f_PageReader_read_byte [.cell n] m := by
  unfold rdr at h
  rw [e_methC (k := 1) (n := n) (m1 := m) (ds := []) (m2 := m) (a0 _ _) h rd_m3 (by simp [mkL_f, mkL_t, wipeP, mulOk, lw_l, lw_c, lv_l, lv_c, lv_x, sv_l, sv_c, sv_x, sv_t, lw_i, lw_s, lw_t, lv_s, lv_t, lv_i, lv_n, add_ii, add_ss, add_tt, add_ll, add_lc, add_cl, add_cc, sub_ii, plus_ii, mul_ii, mul_li, fdv_ii, mod_ii, pow_ii, neg_i, sh_i, sh_s, sh_t, sh_l, sh_n, sh_b, sh_c, eq_nn, ne_nn, eq_ni, ne_ni, eq_in, ne_in, eq_nb, ne_nb, eq_bn, ne_bn, eq_ns, ne_ns, eq_sn, ne_sn, eq_ii, ne_ii, eq_bb, ne_bb, eq_ss, ne_ss, eq_is, ne_is, eq_si, ne_si, eq_bs, ne_bs, eq_sb, ne_sb, isn_n, non_n, isn_i, non_i, isn_b, non_b, isn_s, non_s, isn_t, non_t, isn_l, non_l, isn_c, non_c, isn_x, non_x, tru_n, tru_b, tru_i, tru_t, tru_l, notv_b, ix_t, ix_s, ix_l, ix_x, ix_c, ixl_c, sl_t, sl_s, sl_l, sl_c, rev_l, rev_c, len_t, len_l, len_x, len_s, len_c, list_t, list_l, list_x, list_c, tuple_t, tuple_l, tuple_c, int_i, int_b, abs_i, ord_s, isi_n, isi_b, isi_i, isi_s, isi_t, isi_l, isi_c, kindc, max_ii, min_ii, app_c, ext_c, set_c, sidx_ss, cm_ii, cm_ile, cm_igt, cm_ige, isl_l, isl_c, isl_s, iss_s, iss_l, b_ok, b_st, b_ex, o_ok, o_st, o_ex, c_ok, c_st, c_ex, fin_rt, fin_nx, fin_st, nx_nx, nx_rt, nx_bk, nx_ct, nx_ex, nx_st, e_seq, e_var, e_c, e_op, e_un, e_nil, e_cons, e_call, e_tup, e_lst, e_otup, e_olst, e_gd, e_asg, e_drop, e_ret, e_retN, e_next, e_brk, e_cont, e_ifs, e_setS, e_aug, e_augS, e_tru, e_bl, e_and, e_or, e_not, e_andV, e_orV, e_notV, e_if, e_chain, e_nop, e_part, e_sl, e_iSeq, e_iR1, e_iR2, rngOk_of, rngOk2_of, e_for, e_lc, e_yes, e_mt, e_mt2, e_join, e_put, e_fits, Tg.put, TgL.puts]) rfl]
theorem read_key_k {n : Nat} {m : M} {bs : List Int} {a : Nat} (h : m[n]? = some (rdr bs a)) (hb : bs.length ≤ 1000) (hp : ∀ x ∈ bs, 0 ≤ x) : Rdo n bs m ip (rKey bs a) (f_PageReader_read_key [.cell n] m) := by
  have r1 := read_byte_k h hb
  unfold f_PageReader_read_key fnF fb_PageReader_read_key rKey
  simp only [startP, List.map_cons, List.map_nil, List.length_cons, List.length_nil, Nat.sub_self, List.replicate_zero, List.append_nil]
  rw [e_ret]
  refine Rdo.ret (fun _ => un_ip) ?_
  have mb := m_byte h []
  cases hr : rByte bs a with
  | none =>
    rw [hr] at r1
    obtain ⟨a', e⟩ := r1
    have h' := h
    unfold rdr at h
    refine ⟨a', ?_⟩
    rw [e_methX (n := n) (m1 := m) (m2 := m.set n (rdr bs a')) (c := "DamagedData") (a0 _ _) h rd_m2 (by rw [e_cons, mb, e, b_ex])]
  | some x =>
    obtain ⟨x, a1⟩ := x
    rw [hr] at r1
    have e : f_PageReader_read_byte [.cell n] m = .ok (.int x) (m.set n (rdr bs a1)) := r1
    have hx : 0 ≤ x := by
      unfold rByte at hr
      split at hr
      · rename_i y hy
        cases hr
        exact hp _ (List.mem_of_getElem? hy)
      · cases hr
    have h2 : (m.set n (rdr bs a1))[n]? = some (rdr bs a1) := at_set h
    have rb := read_bytes_r h2 hb x.toNat
    rw [Int.toNat_of_nonneg hx] at rb
    unfold rdr at h
    rw [e_methC (k := 2) (n := n) (m1 := m) (ds := [.int x]) (m2 := m.set n (rdr bs a1)) (a0 _ _) h rd_m2 (by rw [e_cons, mb, e, b_ok, e_nil, b_ok]) rfl]
    exact rb.put
theorem m_key {n : Nat} {m : M} {bs : List Int} {a : Nat} (h : m[n]? = some (rdr bs a)) (ρ : Env) : fMeth "PageReader" "read_key" 1 f_PageReader_read_key (fVar 0) fNil (some (.cell n) :: ρ) m = f_PageReader_read_key [.cell n] m := by
  unfold rdr at h
  rw [e_methC (k := 1) (n := n) (m1 := m) (ds := []) (m2 := m) (a0 _ _) h rd_m4 (by simp [mkL_f, mkL_t, wipeP, mulOk, lw_l, lw_c, lv_l, lv_c, lv_x, sv_l, sv_c, sv_x, sv_t, lw_i, lw_s, lw_t, lv_s, lv_t, lv_i, lv_n, add_ii, add_ss, add_tt, add_ll, add_lc, add_cl, add_cc, sub_ii, plus_ii, mul_ii, mul_li, fdv_ii, mod_ii, pow_ii, neg_i, sh_i, sh_s, sh_t, sh_l, sh_n, sh_b, sh_c, eq_nn, ne_nn, eq_ni, ne_ni, eq_in, ne_in, eq_nb, ne_nb, eq_bn, ne_bn, eq_ns, ne_ns, eq_sn, ne_sn, eq_ii, ne_ii, eq_bb, ne_bb, eq_ss, ne_ss, eq_is, ne_is, eq_si, ne_si, eq_bs, ne_bs, eq_sb, ne_sb, isn_n, non_n, isn_i, non_i, isn_b, non_b, isn_s, non_s, isn_t, non_t, isn_l, non_l, isn_c, non_c, isn_x, non_x, tru_n, tru_b, tru_i, tru_t, tru_l, notv_b, ix_t, ix_s, ix_l, ix_x, ix_c, ixl_c, sl_t, sl_s, sl_l, sl_c, rev_l, rev_c, len_t, len_l, len_x, len_s, len_c, list_t, list_l, list_x, list_c, tuple_t, tuple_l, tuple_c, int_i, int_b, abs_i, ord_s, isi_n, isi_b, isi_i, isi_s, isi_t, isi_l, isi_c, kindc, max_ii, min_ii, app_c, ext_c, set_c, sidx_ss, cm_ii, cm_ile, cm_igt, cm_ige, isl_l, isl_c, isl_s, iss_s, iss_l, b_ok, b_st, b_ex, o_ok, o_st, o_ex, c_ok, c_st, c_ex, fin_rt, fin_nx, fin_st, nx_nx, nx_rt, nx_bk, nx_ct, nx_ex, nx_st, e_seq, e_var, e_c, e_op, e_un, e_nil, e_cons, e_call, e_tup, e_lst, e_otup, e_olst, e_gd, e_asg, e_drop, e_ret, e_retN, e_next, e_brk, e_cont, e_ifs, e_setS, e_aug, e_augS, e_tru, e_bl, e_and, e_or, e_not, e_andV, e_orV, e_notV, e_if, e_chain, e_nop, e_part, e_sl, e_iSeq, e_iR1, e_iR2, rngOk_of, rngOk2_of, e_for, e_lc, e_yes, e_mt, e_mt2, e_join, e_put, e_fits, Tg.put, TgL.puts]) rfl]
/-- need, of a test that is told -/
theorem m_need {n : Nat} {m : M} {bs : List Int} {a : Nat} {b : Bool} {ρ : Env} {fo : FE} {fe : FE} (ho : fo ρ m = .ok (.cell n) m) (h : m[n]? = some (rdr bs a)) (e : fe ρ m = .ok (.bl b) m) :
    fDrop (fMeth "PageReader" "need" 2 f_PageReader_need fo (fCons fe fNil)) ρ m = if b = true then .nx ρ m else .exc "DamagedData" [] ρ m := by
  unfold rdr at h
  rw [e_drop, e_methC (k := 2) (n := n) (m1 := m) (ds := [.bl b]) (m2 := m) ho h rd_m1 (by rw [e_cons, e, b_ok, e_nil, b_ok]) rfl]
  cases b with
  | true => rw [need_t, o_ok, if_pos rfl]
  | false => rw [need_f, o_ex, if_neg Bool.false_ne_true]

def rEnt (bs : List Int) (a : Nat) : Option ((List Int × List Kv) × Nat) := match rKey bs a with
  | some (k, a1) => match rKey bs a1 with
    | some (w, a2) => match decode w with
      | some vs => some ((k, vs), a2)
      | none => none
    | none => none
  | none => none
theorem rKey_len {bs : List Int} {a : Nat} {k : List Int} {a1 : Nat} (h : rKey bs a = some (k, a1)) : k.length ≤ bs.length := by
  unfold rKey rBytes at h
  split at h
  · split at h
    · cases h
      rw [List.length_take, List.length_drop]; omega
    · cases h
  · cases h
theorem asgR {n : Nat} {m : M} {bs : List Int} {β : Type} {f : β → P} {r : Option (β × Nat)} {fe : FE} {ρ : Env} {i : Nat} (w : Rdo n bs m f r (fe ρ m)) : (∃ x a, r = some (x, a) ∧ fAsg (.name i) fe ρ m = .nx (ρ.set i (some (f x))) (m.set n (rdr bs a))) ∨ (r = none ∧ ∃ a, fAsg (.name i) fe ρ m = .exc "DamagedData" [] ρ (m.set n (rdr bs a))) := by
  cases r with
  | none =>
    obtain ⟨a, e⟩ := w
    exact .inr ⟨rfl, a, by rw [e_asg, e, o_ex]⟩
  | some x =>
    have e : fe ρ m = .ok (f x.1) (m.set n (rdr bs x.2)) := w
    exact .inl ⟨x.1, x.2, rfl, by rw [e_asg, e, o_ok]; rfl⟩
theorem uns_kps {n : Nat} {vs : List Kv} : P.under n (rp vs) = true := by rw [rp, un_tup]; exact kps_under n vs
theorem entP_under {n : Nat} {e : List Int × List Kv} : P.under n (entP e) = true := by
  rw [entP, un_tup, uns_cons, uns_cons, uns_nil, un_ip, un_tup, kps_under]; rfl
theorem read_entry_k {n : Nat} {m : M} {bs : List Int} {a : Nat} (h : m[n]? = some (rdr bs a)) (hb : bs.length ≤ 1000) (hp : ∀ x ∈ bs, 0 ≤ x) : Rdo n bs m entP (rEnt bs a) (f_PageReader_read_entry [.cell n] m) := by
  unfold f_PageReader_read_entry fnF fb_PageReader_read_entry rEnt
  simp only [startP, List.map_cons, List.map_nil, List.length_cons, List.length_nil, List.append_nil]
  rw [show (List.replicate (3 - (0 + 1)) (none : Option P)) = [none, none] from rfl]
  rw [List.cons_append, List.nil_append]
  have r1 := read_key_k h hb hp
  rw [← m_key h [none, none]] at r1
  rw [e_seq]
  rcases asgR (i := 1) r1 with ⟨k, a1, hr, e1⟩ | ⟨hr, a1, e1⟩
  rotate_left
  · rw [e1, nx_ex, fin_ex, cutX_rdr, hr]; exact ⟨a1, rfl⟩
  rw [e1, nx_nx, hr]
  dsimp only
  have h1 : (m.set n (rdr bs a1))[n]? = some (rdr bs a1) := at_set h
  have r2 := read_key_k h1 hb hp
  rw [← m_key h1 [some (ip k), none]] at r2
  show Rdo _ _ _ _ _ (finish true m (fSeq _ _ [some (.cell n), some (ip k), none] _))
  rw [e_seq, e_asg, e_call, e_cons]
  cases hr2 : rKey bs a1 with
  | none =>
    rw [hr2] at r2
    obtain ⟨a2, e2⟩ := r2
    rw [e2, b_ex, b_ex, o_ex, nx_ex, fin_ex, List.set_set, cutX_rdr]
    exact ⟨a2, rfl⟩
  | some w =>
    obtain ⟨w, a2⟩ := w
    rw [hr2] at r2
    have e2 : fMeth "PageReader" "read_key" 1 f_PageReader_read_key (fVar 0) fNil [some (.cell n), some (ip k), none] (m.set n (rdr bs a1)) = .ok (ip w) ((m.set n (rdr bs a1)).set n (rdr bs a2)) := r2
    have hw := rKey_len hr2
    rw [e2, b_ok, e_nil, b_ok, b_ok, List.set_set, e_gd, if_pos (show [ip w].length = 1 from rfl), values_of_k w _ (by omega), o_ok]
    have h2 : (m.set n (rdr bs a2))[n]? = some (rdr bs a2) := at_set h
    simp only [Tg.put]
    rw [nx_nx]
    show Rdo _ _ _ _ _ (finish true m (fSeq _ _ [some (.cell n), some (ip k), some _] _))
    rw [e_seq]
    cases hd : decode w with
    | none =>
      rw [m_need (b := false) (a0 _ _) h2 (by simp [mkL_f, mkL_t, wipeP, mulOk, lw_l, lw_c, lv_l, lv_c, lv_x, sv_l, sv_c, sv_x, sv_t, lw_i, lw_s, lw_t, lv_s, lv_t, lv_i, lv_n, add_ii, add_ss, add_tt, add_ll, add_lc, add_cl, add_cc, sub_ii, plus_ii, mul_ii, mul_li, fdv_ii, mod_ii, pow_ii, neg_i, sh_i, sh_s, sh_t, sh_l, sh_n, sh_b, sh_c, eq_nn, ne_nn, eq_ni, ne_ni, eq_in, ne_in, eq_nb, ne_nb, eq_bn, ne_bn, eq_ns, ne_ns, eq_sn, ne_sn, eq_ii, ne_ii, eq_bb, ne_bb, eq_ss, ne_ss, eq_is, ne_is, eq_si, ne_si, eq_bs, ne_bs, eq_sb, ne_sb, isn_n, non_n, isn_i, non_i, isn_b, non_b, isn_s, non_s, isn_t, non_t, isn_l, non_l, isn_c, non_c, isn_x, non_x, tru_n, tru_b, tru_i, tru_t, tru_l, notv_b, ix_t, ix_s, ix_l, ix_x, ix_c, ixl_c, sl_t, sl_s, sl_l, sl_c, rev_l, rev_c, len_t, len_l, len_x, len_s, len_c, list_t, list_l, list_x, list_c, tuple_t, tuple_l, tuple_c, int_i, int_b, abs_i, ord_s, isi_n, isi_b, isi_i, isi_s, isi_t, isi_l, isi_c, kindc, max_ii, min_ii, app_c, ext_c, set_c, sidx_ss, cm_ii, cm_ile, cm_igt, cm_ige, isl_l, isl_c, isl_s, iss_s, iss_l, b_ok, b_st, b_ex, o_ok, o_st, o_ex, c_ok, c_st, c_ex, fin_rt, fin_nx, fin_st, nx_nx, nx_rt, nx_bk, nx_ct, nx_ex, nx_st, e_seq, e_var, e_c, e_op, e_un, e_nil, e_cons, e_call, e_tup, e_lst, e_otup, e_olst, e_gd, e_asg, e_drop, e_ret, e_retN, e_next, e_brk, e_cont, e_ifs, e_setS, e_aug, e_augS, e_tru, e_bl, e_and, e_or, e_not, e_andV, e_orV, e_notV, e_if, e_chain, e_nop, e_part, e_sl, e_iSeq, e_iR1, e_iR2, rngOk_of, rngOk2_of, e_for, e_lc, e_yes, e_mt, e_mt2, e_join, e_put, e_fits, Tg.put, TgL.puts, optP]), if_neg Bool.false_ne_true, nx_ex, fin_ex, cutX_rdr]
      exact ⟨a2, rfl⟩
    | some vs =>
      rw [m_need (b := true) (a0 _ _) h2 (by simp [mkL_f, mkL_t, wipeP, mulOk, lw_l, lw_c, lv_l, lv_c, lv_x, sv_l, sv_c, sv_x, sv_t, lw_i, lw_s, lw_t, lv_s, lv_t, lv_i, lv_n, add_ii, add_ss, add_tt, add_ll, add_lc, add_cl, add_cc, sub_ii, plus_ii, mul_ii, mul_li, fdv_ii, mod_ii, pow_ii, neg_i, sh_i, sh_s, sh_t, sh_l, sh_n, sh_b, sh_c, eq_nn, ne_nn, eq_ni, ne_ni, eq_in, ne_in, eq_nb, ne_nb, eq_bn, ne_bn, eq_ns, ne_ns, eq_sn, ne_sn, eq_ii, ne_ii, eq_bb, ne_bb, eq_ss, ne_ss, eq_is, ne_is, eq_si, ne_si, eq_bs, ne_bs, eq_sb, ne_sb, isn_n, non_n, isn_i, non_i, isn_b, non_b, isn_s, non_s, isn_t, non_t, isn_l, non_l, isn_c, non_c, isn_x, non_x, tru_n, tru_b, tru_i, tru_t, tru_l, notv_b, ix_t, ix_s, ix_l, ix_x, ix_c, ixl_c, sl_t, sl_s, sl_l, sl_c, rev_l, rev_c, len_t, len_l, len_x, len_s, len_c, list_t, list_l, list_x, list_c, tuple_t, tuple_l, tuple_c, int_i, int_b, abs_i, ord_s, isi_n, isi_b, isi_i, isi_s, isi_t, isi_l, isi_c, kindc, max_ii, min_ii, app_c, ext_c, set_c, sidx_ss, cm_ii, cm_ile, cm_igt, cm_ige, isl_l, isl_c, isl_s, iss_s, iss_l, b_ok, b_st, b_ex, o_ok, o_st, o_ex, c_ok, c_st, c_ex, fin_rt, fin_nx, fin_st, nx_nx, nx_rt, nx_bk, nx_ct, nx_ex, nx_st, e_seq, e_var, e_c, e_op, e_un, e_nil, e_cons, e_call, e_tup, e_lst, e_otup, e_olst, e_gd, e_asg, e_drop, e_ret, e_retN, e_next, e_brk, e_cont, e_ifs, e_setS, e_aug, e_augS, e_tru, e_bl, e_and, e_or, e_not, e_andV, e_orV, e_notV, e_if, e_chain, e_nop, e_part, e_sl, e_iSeq, e_iR1, e_iR2, rngOk_of, rngOk2_of, e_for, e_lc, e_yes, e_mt, e_mt2, e_join, e_put, e_fits, Tg.put, TgL.puts, optP]), if_pos rfl, nx_nx]
      have e4 : (fRet (fTup (fCons (fVar 1) (fCons (fVar 2) fNil)))) [some (.cell n), some (ip k), some (optP (fun vs => .tup (vs.map kp)) (some vs))] (m.set n (rdr bs a2)) = .rt (entP (k, vs)) (m.set n (rdr bs a2)) := by
        simp [mkL_f, mkL_t, wipeP, mulOk, lw_l, lw_c, lv_l, lv_c, lv_x, sv_l, sv_c, sv_x, sv_t, lw_i, lw_s, lw_t, lv_s, lv_t, lv_i, lv_n, add_ii, add_ss, add_tt, add_ll, add_lc, add_cl, add_cc, sub_ii, plus_ii, mul_ii, mul_li, fdv_ii, mod_ii, pow_ii, neg_i, sh_i, sh_s, sh_t, sh_l, sh_n, sh_b, sh_c, eq_nn, ne_nn, eq_ni, ne_ni, eq_in, ne_in, eq_nb, ne_nb, eq_bn, ne_bn, eq_ns, ne_ns, eq_sn, ne_sn, eq_ii, ne_ii, eq_bb, ne_bb, eq_ss, ne_ss, eq_is, ne_is, eq_si, ne_si, eq_bs, ne_bs, eq_sb, ne_sb, isn_n, non_n, isn_i, non_i, isn_b, non_b, isn_s, non_s, isn_t, non_t, isn_l, non_l, isn_c, non_c, isn_x, non_x, tru_n, tru_b, tru_i, tru_t, tru_l, notv_b, ix_t, ix_s, ix_l, ix_x, ix_c, ixl_c, sl_t, sl_s, sl_l, sl_c, rev_l, rev_c, len_t, len_l, len_x, len_s, len_c, list_t, list_l, list_x, list_c, tuple_t, tuple_l, tuple_c, int_i, int_b, abs_i, ord_s, isi_n, isi_b, isi_i, isi_s, isi_t, isi_l, isi_c, kindc, max_ii, min_ii, app_c, ext_c, set_c, sidx_ss, cm_ii, cm_ile, cm_igt, cm_ige, isl_l, isl_c, isl_s, iss_s, iss_l, b_ok, b_st, b_ex, o_ok, o_st, o_ex, c_ok, c_st, c_ex, fin_rt, fin_nx, fin_st, nx_nx, nx_rt, nx_bk, nx_ct, nx_ex, nx_st, e_seq, e_var, e_c, e_op, e_un, e_nil, e_cons, e_call, e_tup, e_lst, e_otup, e_olst, e_gd, e_asg, e_drop, e_ret, e_retN, e_next, e_brk, e_cont, e_ifs, e_setS, e_aug, e_augS, e_tru, e_bl, e_and, e_or, e_not, e_andV, e_orV, e_notV, e_if, e_chain, e_nop, e_part, e_sl, e_iSeq, e_iR1, e_iR2, rngOk_of, rngOk2_of, e_for, e_lc, e_yes, e_mt, e_mt2, e_join, e_put, e_fits, Tg.put, TgL.puts, optP, entP]
      rw [e4, fin_rt, cut_rdr entP_under]
      rfl

theorem eq_lints (a b : List Int) (m : M) : oEq (.lst (a.map .int)) (.lst (b.map .int)) m = .ok (.bl (decide (a = b))) m := by rw [eq_ll, eqDat_lints]
theorem cut_from' {α : Type} (l : List α) (a : Nat) : cutL l (some (a : Int)) none = l.drop a := by
  unfold cutL HT.sIx
  simp only [show ¬ ((a : Int) < 0) by omega, if_false]
  have h1 : ((a : Int)).toNat = a := by omega
  rw [h1]
  by_cases h : a ≤ l.length
  · rw [Nat.min_eq_left h, List.take_of_length_le (by rw [List.length_drop]; omega)]
  · rw [Nat.min_eq_right (by omega), List.drop_length, List.take_nil, List.drop_of_length_le (by omega)]
theorem read_end_k {n : Nat} {m : M} {bs : List Int} {a : Nat} (h : m[n]? = some (rdr bs a)) (hb : bs.length ≤ 1000) (ha : a ≤ bs.length) : f_PageReader_read_end [.cell n] m = if bs.drop a = List.replicate (bs.length - a) 0 then .ok .non m else .exc "DamagedData" [] m := by
  unfold f_PageReader_read_end fnF fb_PageReader_read_end
  simp only [startP, List.map_cons, List.map_nil, List.length_cons, List.length_nil, List.append_nil, Nat.sub_self, List.replicate_zero]
  have e : (fOp oEq (fSl false (fFld "PageReader" "data" (fVar 0)) (fPart (fFld "PageReader" "at" (fVar 0))) fNoPart) (fOp (oMul false) (fLst false (fCons (fC (.int 0)) fNil)) (fOp oSub (fCall oLen (fCons (fFld "PageReader" "data" (fVar 0)) fNil)) (fFld "PageReader" "at" (fVar 0))))) [some (.cell n)] m = .ok (.bl (decide (bs.drop a = List.replicate (bs.length - a) 0))) m := by
    have h' := h
    unfold rdr at h
    have c : cutL (bs.map P.int) (some (a : Int)) none = (bs.drop a).map .int := by rw [cut_from', List.map_drop]
    have hl : (bs.drop a).length ≤ 100000 := by rw [List.length_drop]; omega
    have hl2 : bs.length ≤ 100000 := by omega
    have e1 : (fSl false (fFld "PageReader" "data" (fVar 0)) (fPart (fFld "PageReader" "at" (fVar 0))) fNoPart) [some (.cell n)] m = .ok (.lst ((bs.drop a).map .int)) m := by
      simp only [e_sl, e_fld, e_var, List.getElem?_cons_zero, b_ok, fld_at h rd_data, fld_at h rd_at, e_part, e_nop, blP, sl_l, c, mkL_f]
    have q : ((bs.length : Int) - (a : Int)) = ((bs.length - a : Nat) : Int) := by omega
    have e2 : (fOp (oMul false) (fLst false (fCons (fC (.int 0)) fNil)) (fOp oSub (fCall oLen (fCons (fFld "PageReader" "data" (fVar 0)) fNil)) (fFld "PageReader" "at" (fVar 0)))) [some (.cell n)] m = .ok (.lst ((List.replicate (bs.length - a) (0 : Int)).map .int)) m := by
      have g : decide (0 ≤ ((bs.length - a : Nat) : Int) ∧ ((bs.length - a : Nat) : Int) ≤ 100000) = true := decide_eq_true (by omega)
      simp only [e_op, e_lst, e_cons, e_c, e_nil, b_ok, e_olst, List.length_cons, List.length_nil, fits_le (show 0 + 1 ≤ 100000 by decide), if_true, mkL_f, e_call, e_fld, e_var, List.getElem?_cons_zero, fld_at h rd_data, fld_at h rd_at, blP, len_l, List.length_map, sub_ii, q, mul_li, g, Int.toNat_natCast, List.map_replicate, fits_le hl2]
    rw [e_op, e1, b_ok, e2, b_ok, eq_lints]
  rw [m_need (a0 _ _) h e]
  by_cases hc : bs.drop a = List.replicate (bs.length - a) 0
  · rw [decide_eq_true hc, if_pos rfl, if_pos hc, fin_nx, cut_tree0 un_non]
  · rw [decide_eq_false hc, if_neg Bool.false_ne_true, if_neg hc, fin_ex, cutX_nil OkCut.refl, List.take_length]

end
/-! PC -/
section
open PySem PySem.Spec PyProof.Rows
/-! PC: children, whole pages read -/
def rChi (first : Bool) (bs : List Int) (a : Nat) : Option ((List Int × Int) × Nat) := match rByte bs a with
  | some (x, a1) => match rByte bs a1 with
    | some (y, a2) => match rKey bs a2 with
      | some (k, a3) => if k = [] ∨ first = false then some ((k, 256 * x + y), a3) else none
      | none => none
    | none => none
  | none => none
theorem rByte_mem {bs : List Int} {a : Nat} {x : Int} {a1 : Nat} (h : rByte bs a = some (x, a1)) : x ∈ bs := by
  unfold rByte at h
  split at h
  · rename_i y hy
    cases h
    exact List.mem_of_getElem? hy
  · cases h
theorem chiP_under {n : Nat} {c : List Int × Int} : P.under n (chiP c) = true := by
  rw [chiP, un_tup, uns_cons, uns_cons, uns_nil, un_ip, un_int]; rfl
theorem read_child_k (first : Bool) {n : Nat} {m : M} {bs : List Int} {a : Nat} (h : m[n]? = some (rdr bs a)) (hb : bs.length ≤ 1000) (hp : ∀ x ∈ bs, 0 ≤ x ∧ x < 256) : Rdo n bs m chiP (rChi first bs a) (f_PageReader_read_child [.cell n, .bl first] m) := by
  unfold f_PageReader_read_child fnF fb_PageReader_read_child rChi
  simp only [startP, List.map_cons, List.map_nil, List.length_cons, List.length_nil]
  rw [show (List.replicate (4 - (0 + 1 + 1)) (none : Option P)) = [none, none] from rfl]
  simp only [List.cons_append, List.nil_append]
  have r1 := read_byte_k h hb
  rw [← m_byte h [some (.bl first), none, none]] at r1
  rw [e_seq, e_asg, e_op, e_c, b_ok]
  cases hr1 : rByte bs a with
  | none =>
    rw [hr1] at r1
    obtain ⟨a1, e1⟩ := r1
    rw [e1, b_ex, o_ex, nx_ex, fin_ex, cutX_rdr]
    exact ⟨a1, rfl⟩
  | some x =>
    obtain ⟨x, a1⟩ := x
    rw [hr1] at r1
    have e1 : _ = Res.ok (P.int x) (m.set n (rdr bs a1)) := r1
    have hx := hp x (rByte_mem hr1)
    have g : mulOk 256 x = true := decide_eq_true (by omega)
    rw [e1, b_ok, mul_ii, if_pos g, o_ok]
    simp only [Tg.put, List.set_cons_succ, List.set_cons_zero]
    rw [nx_nx]
    have h1 : (m.set n (rdr bs a1))[n]? = some (rdr bs a1) := at_set h
    have r2 := read_byte_k h1 hb
    rw [← m_byte h1 [some (.bl first), some (.int (256 * x)), none]] at r2
    rw [e_seq, e_aug]
    simp only [List.getElem?_cons_succ, List.getElem?_cons_zero]
    cases hr2 : rByte bs a1 with
    | none =>
      rw [hr2] at r2
      obtain ⟨a2, e2⟩ := r2
      rw [e2, o_ex, nx_ex, fin_ex, List.set_set, cutX_rdr]
      exact ⟨a2, rfl⟩
    | some y =>
      obtain ⟨y, a2⟩ := y
      rw [hr2] at r2
      have e2 : _ = Res.ok (P.int y) ((m.set n (rdr bs a1)).set n (rdr bs a2)) := r2
      rw [e2, o_ok, plus_ii, o_ok, List.set_set]
      simp only [List.set_cons_succ, List.set_cons_zero]
      rw [nx_nx]
      have h2 : (m.set n (rdr bs a2))[n]? = some (rdr bs a2) := at_set h
      have r3 := read_key_k h2 hb fun x hx => (hp x hx).1
      rw [← m_key h2 [some (.bl first), some (.int (256 * x + y)), none]] at r3
      rw [e_seq]
      rcases asgR (i := 3) r3 with ⟨k, a3, hr3, e3⟩ | ⟨hr3, a3, e3⟩
      rotate_left
      · rw [e3, nx_ex, fin_ex, List.set_set, cutX_rdr, hr3]; exact ⟨a3, rfl⟩
      rw [e3, nx_nx, hr3]
      simp only [List.set_cons_succ, List.set_cons_zero, List.set_set]
      have h3 : (m.set n (rdr bs a3))[n]? = some (rdr bs a3) := at_set h
      rw [e_seq]
      have t : (fOrV (fOp oEq (fVar 3) (fTup fNil)) (fNotV (fVar 1))) [some (.cell n), some (.bl first), some (.int (256 * x + y)), some (ip k)] (m.set n (rdr bs a3)) = .ok (.bl (decide (k = [] ∨ first = false))) (m.set n (rdr bs a3)) := by
        have q : oEq (ip k) (.tup []) (m.set n (rdr bs a3)) = .ok (.bl (decide (k = []))) (m.set n (rdr bs a3)) := eq_tints k [] _
        have e1 : (fTup fNil) [some (.cell n), some (.bl first), some (.int (256 * x + y)), some (ip k)] (m.set n (rdr bs a3)) = .ok (.tup []) (m.set n (rdr bs a3)) := by
          rw [e_tup, e_nil, b_ok, e_otup, if_pos (fits_le (show ([] : List P).length ≤ 100000 by decide))]
        rw [e_orV, e_op]
        simp only [e_var, List.getElem?_cons_succ, List.getElem?_cons_zero, b_ok, e1, q, tru_b]
        by_cases hk : k = []
        · simp [hk]
        · cases first <;> simp [hk, e_notV, e_var, b_ok, notv_b]
      rw [m_need (a0 _ _) h3 t]
      by_cases hc : k = [] ∨ first = false
      · rw [decide_eq_true hc, if_pos rfl, nx_nx, if_pos hc]
        have e4 : (fRet (fTup (fCons (fVar 3) (fCons (fVar 2) fNil)))) [some (.cell n), some (.bl first), some (.int (256 * x + y)), some (ip k)] (m.set n (rdr bs a3)) = .rt (chiP (k, 256 * x + y)) (m.set n (rdr bs a3)) := by
          simp [mkL_f, mkL_t, wipeP, mulOk, lw_l, lw_c, lv_l, lv_c, lv_x, sv_l, sv_c, sv_x, sv_t, lw_i, lw_s, lw_t, lv_s, lv_t, lv_i, lv_n, add_ii, add_ss, add_tt, add_ll, add_lc, add_cl, add_cc, sub_ii, plus_ii, mul_ii, mul_li, fdv_ii, mod_ii, pow_ii, neg_i, sh_i, sh_s, sh_t, sh_l, sh_n, sh_b, sh_c, eq_nn, ne_nn, eq_ni, ne_ni, eq_in, ne_in, eq_nb, ne_nb, eq_bn, ne_bn, eq_ns, ne_ns, eq_sn, ne_sn, eq_ii, ne_ii, eq_bb, ne_bb, eq_ss, ne_ss, eq_is, ne_is, eq_si, ne_si, eq_bs, ne_bs, eq_sb, ne_sb, isn_n, non_n, isn_i, non_i, isn_b, non_b, isn_s, non_s, isn_t, non_t, isn_l, non_l, isn_c, non_c, isn_x, non_x, tru_n, tru_b, tru_i, tru_t, tru_l, notv_b, ix_t, ix_s, ix_l, ix_x, ix_c, ixl_c, sl_t, sl_s, sl_l, sl_c, rev_l, rev_c, len_t, len_l, len_x, len_s, len_c, list_t, list_l, list_x, list_c, tuple_t, tuple_l, tuple_c, int_i, int_b, abs_i, ord_s, isi_n, isi_b, isi_i, isi_s, isi_t, isi_l, isi_c, kindc, max_ii, min_ii, app_c, ext_c, set_c, sidx_ss, cm_ii, cm_ile, cm_igt, cm_ige, isl_l, isl_c, isl_s, iss_s, iss_l, b_ok, b_st, b_ex, o_ok, o_st, o_ex, c_ok, c_st, c_ex, fin_rt, fin_nx, fin_st, nx_nx, nx_rt, nx_bk, nx_ct, nx_ex, nx_st, e_seq, e_var, e_c, e_op, e_un, e_nil, e_cons, e_call, e_tup, e_lst, e_otup, e_olst, e_gd, e_asg, e_drop, e_ret, e_retN, e_next, e_brk, e_cont, e_ifs, e_setS, e_aug, e_augS, e_tru, e_bl, e_and, e_or, e_not, e_andV, e_orV, e_notV, e_if, e_chain, e_nop, e_part, e_sl, e_iSeq, e_iR1, e_iR2, rngOk_of, rngOk2_of, e_for, e_lc, e_yes, e_mt, e_mt2, e_join, e_put, e_fits, Tg.put, TgL.puts, chiP]
        rw [e4, fin_rt, cut_rdr chiP_under]
        rfl
      · rw [decide_eq_false hc, if_neg Bool.false_ne_true, nx_ex, fin_ex, cutX_rdr, if_neg hc]
        exact ⟨a3, rfl⟩

end
/-! PD -/
section
open PySem PySem.Spec PyProof.Rows
/-! PD: many entries; the reader's making -/
def RdoL {β : Type} (n : Nat) (bs : List Int) (m : M) (f : β → P) (r : Option (List β × Nat)) (out : Res (List P)) : Prop := match r with
  | some (xs, a) => out = .ok (xs.map f) (m.set n (rdr bs a))
  | none => ∃ a, out = .exc "DamagedData" [] (m.set n (rdr bs a))
def rMany {β : Type} (r : Nat → Nat → Option (β × Nat)) : Nat → Nat → Nat → Option (List β × Nat)
  | _, 0, a => some ([], a)
  | s, k + 1, a => match r s a with
    | some (x, a1) => match rMany r (s + 1) k a1 with
      | some (xs, a2) => some (x :: xs, a2)
      | none => none
    | none => none
theorem lc_many {β : Type} {f : β → P} {n : Nat} {bs : List Int} {slot : Nat} {te : FE} {ρ : Env} {r : Nat → Nat → Option (β × Nat)} (hel : ∀ (i a : Nat) (m : M), m[n]? = some (rdr bs a) → Rdo n bs m f (r i a) (te (ρ.set slot (some (.int (i : Int)))) m)) :
    ∀ (k s a : Nat) (m : M), m[n]? = some (rdr bs a) → RdoL n bs m f (rMany r s k a) (lcX (.name slot) fYes te [] ρ ((List.range' s k).map fun (i : Nat) => P.int (i : Int)) m) := by
  intro k
  induction k with
  | zero =>
    intro s a m h
    show lcX _ _ _ _ _ _ _ = .ok _ (m.set n (rdr bs a))
    rw [set_self h]
    exact lcX_nil
  | succ k ih =>
    intro s a m h
    rw [List.range'_succ, List.map_cons, lcX_cons]
    simp only [Tg.put, fYes, c_ok, b_ok, if_true]
    have w := hel s a m h
    rw [rMany]
    cases hr : r s a with
    | none =>
      rw [hr] at w
      obtain ⟨a1, e⟩ := w
      rw [e, b_ex]
      exact ⟨a1, rfl⟩
    | some x =>
      obtain ⟨x, a1⟩ := x
      rw [hr] at w
      have e : _ = Res.ok (f x) (m.set n (rdr bs a1)) := w
      rw [e, b_ok]
      have w2 := ih (s + 1) a1 _ (at_set (c' := rdr bs a1) h)
      dsimp only
      cases hr2 : rMany r (s + 1) k a1 with
      | none =>
        rw [hr2] at w2
        obtain ⟨a2, e2⟩ := w2
        rw [e2, b_ex, List.set_set]
        exact ⟨a2, rfl⟩
      | some xs =>
        obtain ⟨xs, a2⟩ := xs
        rw [hr2] at w2
        have e2 : _ = Res.ok (xs.map f) ((m.set n (rdr bs a1)).set n (rdr bs a2)) := w2
        rw [e2, b_ok, List.set_set]
        rfl
theorem set_end {m : M} {c c' : Cell} : (m ++ [c]).set m.length c' = m ++ [c'] := by
  rw [List.set_append_right _ _ (Nat.le_refl _), Nat.sub_self]; rfl
theorem get_end {m : M} {c : Cell} : (m ++ [c])[m.length]? = some c := by
  rw [List.getElem?_append_right (Nat.le_refl _), Nat.sub_self]; rfl
theorem cut_end {m : M} {c : Cell} {d : P} (h : P.under m.length d = true) : cutV' m d (m ++ [c]) = .ok d m := cut_tree h
theorem cutX_end {m : M} {c : Cell} {x : Str} : cutX m x [] (m ++ [c]) = .exc x [] m := by
  rw [cutX_nil OkCut.app, List.take_left]
theorem init_k {m : M} {bs : List Int} (hb : bs.length ≤ 1000) : f_PageReader_init [.cell m.length, blP bs] (m ++ [.ins "PageReader" []]) = .ok .non (m ++ [rdr bs 0]) := by
  unfold f_PageReader_init fnC fnF fb_PageReader_init
  simp only [startP, List.map_cons, List.map_nil, List.length_cons, List.length_nil, Nat.sub_self, List.replicate_zero, List.append_nil]
  have hl : bs.length ≤ 100000 := by omega
  have e1 : (fSetF "PageReader" "data" (fVar 0) (fCall (oList false) (fCons (fVar 1) fNil))) [some (.cell m.length), some (blP bs)] (m ++ [.ins "PageReader" []]) = .nx [some (.cell m.length), some (blP bs)] (m ++ [.ins "PageReader" [("data", blP bs)]]) := by
    have q : oList false [blP bs] (m ++ [.ins "PageReader" []]) = .ok (blP bs) (m ++ [.ins "PageReader" []]) := by simp [mkL_f, mkL_t, wipeP, mulOk, lw_l, lw_c, lv_l, lv_c, lv_x, sv_l, sv_c, sv_x, sv_t, lw_i, lw_s, lw_t, lv_s, lv_t, lv_i, lv_n, add_ii, add_ss, add_tt, add_ll, add_lc, add_cl, add_cc, sub_ii, plus_ii, mul_ii, mul_li, fdv_ii, mod_ii, pow_ii, neg_i, sh_i, sh_s, sh_t, sh_l, sh_n, sh_b, sh_c, eq_nn, ne_nn, eq_ni, ne_ni, eq_in, ne_in, eq_nb, ne_nb, eq_bn, ne_bn, eq_ns, ne_ns, eq_sn, ne_sn, eq_ii, ne_ii, eq_bb, ne_bb, eq_ss, ne_ss, eq_is, ne_is, eq_si, ne_si, eq_bs, ne_bs, eq_sb, ne_sb, isn_n, non_n, isn_i, non_i, isn_b, non_b, isn_s, non_s, isn_t, non_t, isn_l, non_l, isn_c, non_c, isn_x, non_x, tru_n, tru_b, tru_i, tru_t, tru_l, notv_b, ix_t, ix_s, ix_l, ix_x, ix_c, ixl_c, sl_t, sl_s, sl_l, sl_c, rev_l, rev_c, len_t, len_l, len_x, len_s, len_c, list_t, list_l, list_x, list_c, tuple_t, tuple_l, tuple_c, int_i, int_b, abs_i, ord_s, isi_n, isi_b, isi_i, isi_s, isi_t, isi_l, isi_c, kindc, max_ii, min_ii, app_c, ext_c, set_c, sidx_ss, cm_ii, cm_ile, cm_igt, cm_ige, isl_l, isl_c, isl_s, iss_s, iss_l, b_ok, b_st, b_ex, o_ok, o_st, o_ex, c_ok, c_st, c_ex, fin_rt, fin_nx, fin_st, nx_nx, nx_rt, nx_bk, nx_ct, nx_ex, nx_st, e_seq, e_var, e_c, e_op, e_un, e_nil, e_cons, e_call, e_tup, e_lst, e_otup, e_olst, e_gd, e_asg, e_drop, e_ret, e_retN, e_next, e_brk, e_cont, e_ifs, e_setS, e_aug, e_augS, e_tru, e_bl, e_and, e_or, e_not, e_andV, e_orV, e_notV, e_if, e_chain, e_nop, e_part, e_sl, e_iSeq, e_iR1, e_iR2, rngOk_of, rngOk2_of, e_for, e_lc, e_yes, e_mt, e_mt2, e_join, e_put, e_fits, Tg.put, TgL.puts, blP, hl]
    rw [e_setF]
    simp only [e_call, e_cons, e_var, List.getElem?_cons_succ, List.getElem?_cons_zero, b_ok, e_nil, q, o_ok]
    rw [putF_at get_end (by decide), set_end]
    rfl
  have e2 : (fSetF "PageReader" "at" (fVar 0) (fC (.int 0))) [some (.cell m.length), some (blP bs)] (m ++ [.ins "PageReader" [("data", blP bs)]]) = .nx [some (.cell m.length), some (blP bs)] (m ++ [rdr bs 0]) := by
    rw [e_setF, e_c, o_ok]
    simp only [e_var, List.getElem?_cons_zero, o_ok]
    rw [putF_at get_end (by show 1 < 1000; decide), set_end]
    simp [fput, sn_data_at, rdr]
  rw [e_seq, e1, nx_nx, e2, fin_nx]
  have ok : OkCut (m ++ [.ins "PageReader" []]) (m ++ [rdr bs 0]) := by
    have := (OkCut.refl (m := m ++ [.ins "PageReader" []])).set (k := m.length) (c := rdr bs 0) under_rdr
    rwa [set_end] at this
  rw [cut_at ok un_non]
  have hl2 : (m ++ [Cell.ins "PageReader" []]).length = (m ++ [rdr bs 0]).length := by simp
  rw [hl2, List.take_length, c_ok]

end
/-! PE -/
section
open PySem PySem.Spec PyProof.Rows
/-! PE: read_page -/
def endOk (bs : List Int) (a : Nat) : Bool := decide (bs.drop a = List.replicate (bs.length - a) 0)
def parse (bs : List Int) : Option Pg := if bs.length = 256 then match rByte bs 0 with
    | some (kind, a1) => if kind ≤ 1 then match rByte bs a1 with
      | some (cnt, a2) => if kind = 0 then match rMany (fun _ => rEnt bs) 0 cnt.toNat a2 with
          | some (es, a3) => if endOk bs a3 = true then some (.leaf es) else none
          | none => none
        else match rMany (fun i => rChi (decide (i = 0)) bs) 0 cnt.toNat a2 with
          | some (cs, a3) => if endOk bs a3 = true then some (.inner cs) else none
          | none => none
      | none => none
      else none
    | none => none
  else none
theorem rBytes_le {bs : List Int} {a k : Nat} {x : List Int} {a1 : Nat} (h : rBytes bs a k = some (x, a1)) : a1 ≤ bs.length := by
  unfold rBytes at h
  split at h
  · cases h; assumption
  · cases h
theorem rByte_le {bs : List Int} {a : Nat} {x : Int} {a1 : Nat} (h : rByte bs a = some (x, a1)) : a1 = a + 1 ∧ a < bs.length := by
  unfold rByte at h
  split at h
  · rename_i y hy
    cases h
    exact ⟨rfl, (List.getElem?_eq_some_iff.mp hy).1⟩
  · cases h
theorem rKey_le {bs : List Int} {a : Nat} {x : List Int} {a1 : Nat} (h : rKey bs a = some (x, a1)) : a1 ≤ bs.length := by
  unfold rKey at h
  split at h
  · exact rBytes_le h
  · cases h
theorem rEnt_le {bs : List Int} {a : Nat} {x} {a1 : Nat} (h : rEnt bs a = some (x, a1)) : a1 ≤ bs.length := by
  unfold rEnt at h
  split at h
  · split at h
    · rename_i h2
      split at h
      · cases h; exact rKey_le h2
      · cases h
    · cases h
  · cases h
theorem rChi_le {f : Bool} {bs : List Int} {a : Nat} {x} {a1 : Nat} (h : rChi f bs a = some (x, a1)) : a1 ≤ bs.length := by
  unfold rChi at h
  split at h
  · split at h
    · split at h
      · rename_i h3
        split at h
        · cases h; exact rKey_le h3
        · cases h
      · cases h
    · cases h
  · cases h
theorem rMany_le {β : Type} {r : Nat → Nat → Option (β × Nat)} {L : Nat} (hr : ∀ i a x a1, r i a = some (x, a1) → a1 ≤ L) : ∀ (k s a : Nat) {xs : List β} {a1 : Nat}, a ≤ L → rMany r s k a = some (xs, a1) → a1 ≤ L ∧ xs.length = k
  | 0, _, a, xs, a1, ha, h => by rw [rMany] at h; cases h; exact ⟨ha, rfl⟩
  | k + 1, s, a, xs, a1, ha, h => by
    rw [rMany] at h
    split at h
    · rename_i x a2 h1
      split at h
      · rename_i ys a3 h2
        cases h
        obtain ⟨q1, q2⟩ := rMany_le hr k (s + 1) a2 (hr _ _ _ _ h1) h2
        exact ⟨q1, by rw [List.length_cons, q2]⟩
      · cases h
    · cases h

end
/-! PF -/
section
open PySem PySem.Spec PyProof.Rows
/-! PF: read_page, walked -/
section
variable {n : Nat} {m : M} {bs : List Int} {a : Nat} {ρ : Env} {fo : FE}
theorem g_byte (ho : fo ρ m = .ok (.cell n) m) (h : m[n]? = some (rdr bs a)) : fMeth "PageReader" "read_byte" 1 f_PageReader_read_byte fo fNil ρ m = f_PageReader_read_byte [.cell n] m := by
  unfold rdr at h
  rw [e_methC (k := 1) (n := n) (m1 := m) (ds := []) (m2 := m) ho h rd_m3 e_nil rfl]
theorem g_entry (ho : fo ρ m = .ok (.cell n) m) (h : m[n]? = some (rdr bs a)) : fMeth "PageReader" "read_entry" 1 f_PageReader_read_entry fo fNil ρ m = f_PageReader_read_entry [.cell n] m := by
  unfold rdr at h
  rw [e_methC (k := 1) (n := n) (m1 := m) (ds := []) (m2 := m) ho h rd_m5 e_nil rfl]
theorem g_end (ho : fo ρ m = .ok (.cell n) m) (h : m[n]? = some (rdr bs a)) : fMeth "PageReader" "read_end" 1 f_PageReader_read_end fo fNil ρ m = f_PageReader_read_end [.cell n] m := by
  unfold rdr at h
  rw [e_methC (k := 1) (n := n) (m1 := m) (ds := []) (m2 := m) ho h rd_m7 e_nil rfl]
theorem g_child {fe : FE} {d : P} (ho : fo ρ m = .ok (.cell n) m) (h : m[n]? = some (rdr bs a)) (e : fe ρ m = .ok d m) : fMeth "PageReader" "read_child" 2 f_PageReader_read_child fo (fCons fe fNil) ρ m = f_PageReader_read_child [.cell n, d] m := by
  unfold rdr at h
  rw [e_methC (k := 2) (n := n) (m1 := m) (ds := [d]) (m2 := m) ho h rd_m6 (by rw [e_cons, e, b_ok, e_nil, b_ok]) rfl]
end
theorem a1 (d e : P) (ρ : Env) {m : M} : fVar 1 (some d :: some e :: ρ) m = .ok e m := rfl
/-- the body behind the reader's making, all steps -/
theorem read_page_k {bs : List Int} (hb : bs.length ≤ 1000) (hp : ∀ x ∈ bs, 0 ≤ x ∧ x < 256) (m : M) : f_read_page [blP bs] m = match parse bs with
    | some p => .ok (pgP p) m
    | none => .exc "DamagedData" [] m := by
  unfold f_read_page fnF fb_read_page parse
  simp only [startP, List.map_cons, List.map_nil, List.length_cons, List.length_nil]
  rw [show (List.replicate (7 - (0 + 1)) (none : Option P)) = [none, none, none, none, none, none] from rfl]
  simp only [List.cons_append, List.nil_append]
  have mk : (fMake "PageReader" 2 f_PageReader_init (fCons (fVar 0) fNil)) [some (blP bs), none, none, none, none, none, none] m = .ok (.cell m.length) (m ++ [rdr bs 0]) := by
    rw [e_make, e_cons]
    simp only [e_var, List.getElem?_cons_zero, b_ok, e_nil]
    rw [e_gd, if_pos (show [P.cell m.length, blP bs].length = 2 from rfl), init_k hb, b_ok]
  rw [e_seq, e_asg, mk, o_ok]
  simp only [Tg.put, List.set_cons_succ, List.set_cons_zero]
  rw [nx_nx]
  have h0 : (m ++ [rdr bs 0])[m.length]? = some (rdr bs 0) := get_end
  have t0 : (fOp oEq (fCall oLen (fCons (fFld "PageReader" "data" (fVar 1)) fNil)) (fC (.int 256))) [some (blP bs), some (.cell m.length), none, none, none, none, none] (m ++ [rdr bs 0]) = .ok (.bl (decide (bs.length = 256))) (m ++ [rdr bs 0]) := by
    have hl : bs.length ≤ 100000 := by omega
    have d0 : oFld "PageReader" "data" (.cell m.length) (m ++ [rdr bs 0]) = .ok (blP bs) (m ++ [rdr bs 0]) := fld_at (show _ = some (Cell.ins _ _) from h0) rd_data
    have q : ((bs.length : Int) = 256) ↔ bs.length = 256 := by omega
    have l0 : oLen [blP bs] (m ++ [rdr bs 0]) = .ok (.int (bs.length : Int)) (m ++ [rdr bs 0]) := by
      simp [mkL_f, mkL_t, wipeP, mulOk, lw_l, lw_c, lv_l, lv_c, lv_x, sv_l, sv_c, sv_x, sv_t, lw_i, lw_s, lw_t, lv_s, lv_t, lv_i, lv_n, add_ii, add_ss, add_tt, add_ll, add_lc, add_cl, add_cc, sub_ii, plus_ii, mul_ii, mul_li, fdv_ii, mod_ii, pow_ii, neg_i, sh_i, sh_s, sh_t, sh_l, sh_n, sh_b, sh_c, eq_nn, ne_nn, eq_ni, ne_ni, eq_in, ne_in, eq_nb, ne_nb, eq_bn, ne_bn, eq_ns, ne_ns, eq_sn, ne_sn, eq_ii, ne_ii, eq_bb, ne_bb, eq_ss, ne_ss, eq_is, ne_is, eq_si, ne_si, eq_bs, ne_bs, eq_sb, ne_sb, isn_n, non_n, isn_i, non_i, isn_b, non_b, isn_s, non_s, isn_t, non_t, isn_l, non_l, isn_c, non_c, isn_x, non_x, tru_n, tru_b, tru_i, tru_t, tru_l, notv_b, ix_t, ix_s, ix_l, ix_x, ix_c, ixl_c, sl_t, sl_s, sl_l, sl_c, rev_l, rev_c, len_t, len_l, len_x, len_s, len_c, list_t, list_l, list_x, list_c, tuple_t, tuple_l, tuple_c, int_i, int_b, abs_i, ord_s, isi_n, isi_b, isi_i, isi_s, isi_t, isi_l, isi_c, kindc, max_ii, min_ii, app_c, ext_c, set_c, sidx_ss, cm_ii, cm_ile, cm_igt, cm_ige, isl_l, isl_c, isl_s, iss_s, iss_l, b_ok, b_st, b_ex, o_ok, o_st, o_ex, c_ok, c_st, c_ex, fin_rt, fin_nx, fin_st, nx_nx, nx_rt, nx_bk, nx_ct, nx_ex, nx_st, e_seq, e_var, e_c, e_op, e_un, e_nil, e_cons, e_call, e_tup, e_lst, e_otup, e_olst, e_gd, e_asg, e_drop, e_ret, e_retN, e_next, e_brk, e_cont, e_ifs, e_setS, e_aug, e_augS, e_tru, e_bl, e_and, e_or, e_not, e_andV, e_orV, e_notV, e_if, e_chain, e_nop, e_part, e_sl, e_iSeq, e_iR1, e_iR2, rngOk_of, rngOk2_of, e_for, e_lc, e_yes, e_mt, e_mt2, e_join, e_put, e_fits, Tg.put, TgL.puts, blP, hl]
    simp only [e_op, e_call, e_cons, e_fld, e_var, List.getElem?_cons_succ, List.getElem?_cons_zero, b_ok, e_nil, d0, e_c, l0, eq_ii, q]
  rw [e_seq, m_need (a1 _ _ _) h0 t0]
  by_cases hc : bs.length = 256
  rotate_left
  · rw [decide_eq_false hc, if_neg Bool.false_ne_true, nx_ex, fin_ex, cutX_end, if_neg hc]
  rw [decide_eq_true hc, if_pos rfl, nx_nx, if_pos hc]
  have r1 := read_byte_k h0 hb
  rw [← g_byte (a1 (blP bs) (.cell m.length) [none, none, none, none, none]) h0] at r1
  rw [e_seq]
  rcases asgR (i := 2) r1 with ⟨x, b1, hr1, e1⟩ | ⟨hr1, b1, e1⟩
  rotate_left
  · rw [e1, nx_ex, fin_ex, set_end, cutX_end, hr1]
  rw [e1, nx_nx, hr1, set_end]
  simp only [List.set_cons_succ, List.set_cons_zero]
  have h1 : (m ++ [rdr bs b1])[m.length]? = some (rdr bs b1) := get_end
  have t1 : (fOp (oCm .le) (fVar 2) (fC (.int 1))) [some (blP bs), some (.cell m.length), some (.int x), none, none, none, none] (m ++ [rdr bs b1]) = .ok (.bl (decide (x ≤ 1))) (m ++ [rdr bs b1]) := by
    simp [mkL_f, mkL_t, wipeP, mulOk, lw_l, lw_c, lv_l, lv_c, lv_x, sv_l, sv_c, sv_x, sv_t, lw_i, lw_s, lw_t, lv_s, lv_t, lv_i, lv_n, add_ii, add_ss, add_tt, add_ll, add_lc, add_cl, add_cc, sub_ii, plus_ii, mul_ii, mul_li, fdv_ii, mod_ii, pow_ii, neg_i, sh_i, sh_s, sh_t, sh_l, sh_n, sh_b, sh_c, eq_nn, ne_nn, eq_ni, ne_ni, eq_in, ne_in, eq_nb, ne_nb, eq_bn, ne_bn, eq_ns, ne_ns, eq_sn, ne_sn, eq_ii, ne_ii, eq_bb, ne_bb, eq_ss, ne_ss, eq_is, ne_is, eq_si, ne_si, eq_bs, ne_bs, eq_sb, ne_sb, isn_n, non_n, isn_i, non_i, isn_b, non_b, isn_s, non_s, isn_t, non_t, isn_l, non_l, isn_c, non_c, isn_x, non_x, tru_n, tru_b, tru_i, tru_t, tru_l, notv_b, ix_t, ix_s, ix_l, ix_x, ix_c, ixl_c, sl_t, sl_s, sl_l, sl_c, rev_l, rev_c, len_t, len_l, len_x, len_s, len_c, list_t, list_l, list_x, list_c, tuple_t, tuple_l, tuple_c, int_i, int_b, abs_i, ord_s, isi_n, isi_b, isi_i, isi_s, isi_t, isi_l, isi_c, kindc, max_ii, min_ii, app_c, ext_c, set_c, sidx_ss, cm_ii, cm_ile, cm_igt, cm_ige, isl_l, isl_c, isl_s, iss_s, iss_l, b_ok, b_st, b_ex, o_ok, o_st, o_ex, c_ok, c_st, c_ex, fin_rt, fin_nx, fin_st, nx_nx, nx_rt, nx_bk, nx_ct, nx_ex, nx_st, e_seq, e_var, e_c, e_op, e_un, e_nil, e_cons, e_call, e_tup, e_lst, e_otup, e_olst, e_gd, e_asg, e_drop, e_ret, e_retN, e_next, e_brk, e_cont, e_ifs, e_setS, e_aug, e_augS, e_tru, e_bl, e_and, e_or, e_not, e_andV, e_orV, e_notV, e_if, e_chain, e_nop, e_part, e_sl, e_iSeq, e_iR1, e_iR2, rngOk_of, rngOk2_of, e_for, e_lc, e_yes, e_mt, e_mt2, e_join, e_put, e_fits, Tg.put, TgL.puts]
  rw [e_seq, m_need (a1 _ _ _) h1 t1]
  by_cases hk : x ≤ 1
  rotate_left
  · rw [decide_eq_false hk, if_neg Bool.false_ne_true, nx_ex, fin_ex, cutX_end, if_neg hk]
  rw [decide_eq_true hk, if_pos rfl, nx_nx, if_pos hk]
  have r2 := read_byte_k h1 hb
  rw [← g_byte (a1 (blP bs) (.cell m.length) [some (.int x), none, none, none, none]) h1] at r2
  rw [e_seq]
  rcases asgR (i := 3) r2 with ⟨c, b2, hr2, e2⟩ | ⟨hr2, b2, e2⟩
  rotate_left
  · rw [e2, nx_ex, fin_ex, set_end, cutX_end, hr2]
  rw [e2, nx_nx, hr2, set_end]
  simp only [List.set_cons_succ, List.set_cons_zero]
  have h2 : (m ++ [rdr bs b2])[m.length]? = some (rdr bs b2) := get_end
  have hcm := hp c (rByte_mem hr2)
  have hcn : (c.toNat : Int) = c := Int.toNat_of_nonneg hcm.1
  have rl : (rngP 0 c.toNat).length ≤ 100000 := by rw [rngP_eq, List.length_map, List.length_range']; omega
  have ir : (iR1 (fCons (fVar 3) fNil)) [some (blP bs), some (.cell m.length), some (.int x), some (.int c), none, none, none] (m ++ [rdr bs b2]) = .ok ⟨rngP 0 c.toNat, []⟩ (m ++ [rdr bs b2]) := by
    rw [e_iR1]
    simp only [e_cons, e_var, List.getElem?_cons_succ, List.getElem?_cons_zero, b_ok, e_nil]
    rw [rngOk_of hcm.1 (by omega), if_pos rfl]
  have bx : (fBl (fOp oEq (fVar 2) (fC (.int 0)))) [some (blP bs), some (.cell m.length), some (.int x), some (.int c), none, none, none] (m ++ [rdr bs b2]) = .ok (decide (x = 0)) (m ++ [rdr bs b2]) := by
    simp only [e_bl, e_op, e_var, List.getElem?_cons_succ, List.getElem?_cons_zero, b_ok, e_c, eq_ii]
  -- the page's end
  have fin : ∀ (p : P) (a3 : Nat), a3 ≤ bs.length → P.under m.length p = true → (finish true m ((fSeq (fDrop (fMeth "PageReader" "read_end" 1 f_PageReader_read_end (fVar 1) fNil)) (fRet (fVar 4))) [some (blP bs), some (.cell m.length), some (.int x), some (.int c), some p, none, none] (m ++ [rdr bs a3])) = if endOk bs a3 = true then .ok p m else .exc "DamagedData" [] m) := by
    intro p a3 ha hu
    rw [e_seq, e_drop, g_end (a1 _ _ _) get_end, read_end_k get_end hb ha]
    unfold endOk
    by_cases hz : bs.drop a3 = List.replicate (bs.length - a3) 0
    · rw [if_pos hz, decide_eq_true hz, if_pos rfl, o_ok, nx_nx, e_ret]
      simp only [e_var, List.getElem?_cons_succ, List.getElem?_cons_zero, o_ok]
      rw [fin_rt, cut_end hu]
    · rw [if_neg hz, decide_eq_false hz, if_neg Bool.false_ne_true, o_ex, nx_ex, fin_ex, cutX_end]
  rw [e_seq, e_ifB bx]
  by_cases hx0 : x = 0
  · rw [decide_eq_true hx0, if_pos rfl, if_pos hx0]
    have w := lc_many (f := entP) (n := m.length) (bs := bs) (slot := 5) (te := fMeth "PageReader" "read_entry" 1 f_PageReader_read_entry (fVar 1) fNil) (ρ := wipeP [some (blP bs), some (.cell m.length), some (.int x), some (.int c), none, none, none] [5]) (r := fun _ => rEnt bs)
      (fun i a m' h => by
        show Rdo _ _ _ _ _ (fMeth "PageReader" "read_entry" 1 f_PageReader_read_entry (fVar 1) fNil [some (blP bs), some (.cell m.length), some (.int x), some (.int c), none, some (.int (i : Int)), none] m')
        rw [g_entry (a1 _ _ _) h]
        exact read_entry_k h hb fun x hx => (hp x hx).1) c.toNat 0 b2 _ h2
    rw [← rngP_eq] at w
    rw [e_asg, e_tup, e_cons, e_c, b_ok, e_cons, e_call, e_cons, e_lcX, ir, b_ok, if_pos (fits_le rl)]
    dsimp only
    cases hm : rMany (fun _ => rEnt bs) 0 c.toNat b2 with
    | none =>
      rw [hm] at w
      obtain ⟨a3, e3⟩ := w
      rw [e3]
      simp only [b_ex, o_ex, nx_ex, fin_ex]
      rw [set_end, cutX_end]
    | some es =>
      obtain ⟨es, a3⟩ := es
      rw [hm] at w
      have e3 : _ = Res.ok (es.map entP) ((m ++ [rdr bs b2]).set m.length (rdr bs a3)) := w
      obtain ⟨q1, q2⟩ := rMany_le (L := bs.length) (fun i a x a1 h => rEnt_le h) _ _ _ (by have := rByte_le hr2; omega) hm
      rw [e3]
      simp only [b_ok, mkL_f, e_nil, tuple_l, o_ok, set_end]
      rw [e_otup, if_pos (fits_le (by show 2 ≤ 100000; decide)), o_ok]
      simp only [Tg.put, List.set_cons_succ, List.set_cons_zero]
      rw [nx_nx, fin (.tup [.str "leaf", .tup (es.map entP)]) a3 q1 (by rw [un_tup, uns_cons, uns_cons, uns_nil, un_str, un_tup, uns_all (fun x hx => by obtain ⟨e, _, rfl⟩ := List.mem_map.mp hx; exact entP_under)]; rfl)]
      by_cases hz : endOk bs a3 = true
      · rw [if_pos hz, if_pos hz]; rfl
      · rw [if_neg hz, if_neg hz]
  · rw [decide_eq_false hx0, if_neg Bool.false_ne_true, if_neg hx0]
    have w := lc_many (f := chiP) (n := m.length) (bs := bs) (slot := 6) (te := fMeth "PageReader" "read_child" 2 f_PageReader_read_child (fVar 1) (fCons (fOp oEq (fVar 6) (fC (.int 0))) fNil)) (ρ := wipeP [some (blP bs), some (.cell m.length), some (.int x), some (.int c), none, none, none] [6]) (r := fun i => rChi (decide (i = 0)) bs)
      (fun i a m' h => by
        show Rdo _ _ _ _ _ (fMeth "PageReader" "read_child" 2 f_PageReader_read_child (fVar 1) (fCons (fOp oEq (fVar 6) (fC (.int 0))) fNil) [some (blP bs), some (.cell m.length), some (.int x), some (.int c), none, none, some (.int (i : Int))] m')
        have q : ((i : Int) = 0) ↔ i = 0 := by omega
        rw [g_child (d := .bl (decide (i = 0))) (a1 _ _ _) h (by simp only [e_op, e_var, List.getElem?_cons_succ, List.getElem?_cons_zero, b_ok, e_c, eq_ii, q])]
        exact read_child_k _ h hb hp) c.toNat 0 b2 _ h2
    rw [← rngP_eq] at w
    rw [e_asg, e_tup, e_cons, e_c, b_ok, e_cons, e_call, e_cons, e_lcX, ir, b_ok, if_pos (fits_le rl)]
    dsimp only
    cases hm : rMany (fun i => rChi (decide (i = 0)) bs) 0 c.toNat b2 with
    | none =>
      rw [hm] at w
      obtain ⟨a3, e3⟩ := w
      rw [e3]
      simp only [b_ex, o_ex, nx_ex, fin_ex]
      rw [set_end, cutX_end]
    | some es =>
      obtain ⟨es, a3⟩ := es
      rw [hm] at w
      have e3 : _ = Res.ok (es.map chiP) ((m ++ [rdr bs b2]).set m.length (rdr bs a3)) := w
      obtain ⟨q1, q2⟩ := rMany_le (L := bs.length) (fun i a x a1 h => rChi_le h) _ _ _ (by have := rByte_le hr2; omega) hm
      rw [e3]
      simp only [b_ok, mkL_f, e_nil, tuple_l, o_ok, set_end]
      rw [e_otup, if_pos (fits_le (by show 2 ≤ 100000; decide)), o_ok]
      simp only [Tg.put, List.set_cons_succ, List.set_cons_zero]
      rw [nx_nx, fin (.tup [.str "inner", .tup (es.map chiP)]) a3 q1 (by rw [un_tup, uns_cons, uns_cons, uns_nil, un_str, un_tup, uns_all (fun x hx => by obtain ⟨e, _, rfl⟩ := List.mem_map.mp hx; exact chiP_under)]; rfl)]
      by_cases hz : endOk bs a3 = true
      · rw [if_pos hz, if_pos hz]; rfl
      · rw [if_neg hz, if_neg hz]

end
/-! PW -/
section
open PySem PySem.Spec PyProof.Rows
/-! PW: write_page -/
theorem ext_loop {α : Type} {pf : α → P} {fb : α → List Int} {fn : FN} {m : M} {a b c : Option P} : ∀ (xs : List α) (acc : List Int) (o : Option P), (∀ x ∈ xs, ∀ m, fn [pf x] m = .ok (blP (fb x)) m) → acc.length + (flatB fb xs).length ≤ 100000 →
    ∃ o', forG (.name 4) (fDrop (fMt isL oExtend (fVar 3) (fCons (fCall (gd 1 fn) (fCons (fVar 4) fNil)) fNil))) [] (xs.map pf) [a, b, c, some (.cell m.length), o] (m ++ [.lst (acc.map .int)]) = .nx [a, b, c, some (.cell m.length), o'] (m ++ [.lst ((acc ++ flatB fb xs).map .int)]) := by
  intro xs
  induction xs with
  | nil => intro acc o _ _; exact ⟨o, by simp [forG_nil, flatB]⟩
  | cons x xs ih =>
    intro acc o hx hl
    rw [flatB, List.length_append] at hl
    obtain ⟨o', ho⟩ := ih (acc ++ fb x) (some (pf x)) (fun y hy => hx y (List.mem_cons_of_mem _ hy)) (by rw [List.length_append]; omega)
    refine ⟨o', ?_⟩
    rw [List.map_cons, forG_cons]
    have h2 : acc.length + (fb x).length ≤ 100000 := by omega
    have e := hx x List.mem_cons_self (m ++ [.lst (acc.map .int)])
    simp [mkL_f, mkL_t, wipeP, mulOk, lw_l, lw_c, lv_l, lv_c, lv_x, sv_l, sv_c, sv_x, sv_t, lw_i, lw_s, lw_t, lv_s, lv_t, lv_i, lv_n, add_ii, add_ss, add_tt, add_ll, add_lc, add_cl, add_cc, sub_ii, plus_ii, mul_ii, mul_li, fdv_ii, mod_ii, pow_ii, neg_i, sh_i, sh_s, sh_t, sh_l, sh_n, sh_b, sh_c, eq_nn, ne_nn, eq_ni, ne_ni, eq_in, ne_in, eq_nb, ne_nb, eq_bn, ne_bn, eq_ns, ne_ns, eq_sn, ne_sn, eq_ii, ne_ii, eq_bb, ne_bb, eq_ss, ne_ss, eq_is, ne_is, eq_si, ne_si, eq_bs, ne_bs, eq_sb, ne_sb, isn_n, non_n, isn_i, non_i, isn_b, non_b, isn_s, non_s, isn_t, non_t, isn_l, non_l, isn_c, non_c, isn_x, non_x, tru_n, tru_b, tru_i, tru_t, tru_l, notv_b, ix_t, ix_s, ix_l, ix_x, ix_c, ixl_c, sl_t, sl_s, sl_l, sl_c, rev_l, rev_c, len_t, len_l, len_x, len_s, len_c, list_t, list_l, list_x, list_c, tuple_t, tuple_l, tuple_c, int_i, int_b, abs_i, ord_s, isi_n, isi_b, isi_i, isi_s, isi_t, isi_l, isi_c, kindc, max_ii, min_ii, app_c, ext_c, set_c, sidx_ss, cm_ii, cm_ile, cm_igt, cm_ige, isl_l, isl_c, isl_s, iss_s, iss_l, b_ok, b_st, b_ex, o_ok, o_st, o_ex, c_ok, c_st, c_ex, fin_rt, fin_nx, fin_st, nx_nx, nx_rt, nx_bk, nx_ct, nx_ex, nx_st, e_seq, e_var, e_c, e_op, e_un, e_nil, e_cons, e_call, e_tup, e_lst, e_otup, e_olst, e_gd, e_asg, e_drop, e_ret, e_retN, e_next, e_brk, e_cont, e_ifs, e_setS, e_aug, e_augS, e_tru, e_bl, e_and, e_or, e_not, e_andV, e_orV, e_notV, e_if, e_chain, e_nop, e_part, e_sl, e_iSeq, e_iR1, e_iR2, rngOk_of, rngOk2_of, e_for, e_lc, e_yes, e_mt, e_mt2, e_join, e_put, e_fits, Tg.put, TgL.puts, e, blP, h2]
    simp at ho
    simpa [flatB] using ho
/-- the end of write_page: too long, or filled with zeros -/
theorem pad_end {fb x : List Int} {m : M} {a b c o' : Option P} (h : (x ++ fb).length ≤ 99000) : (finish true m ((fSeq (fIfS (fBl (fOp (oCm .gt) (fCall oLen (fCons (fVar 3) fNil)) (fC (.int 256)))) (fRet (fC .non)) fNext)
  (fRet (fOp (oAdd false) (fVar 3) (fOp (oMul false) (fLst false (fCons (fC (.int 0)) fNil)) (fOp oSub (fC (.int 256)) (fCall oLen (fCons (fVar 3) fNil))))))) [a, b, c, some (.cell m.length), o'] (m ++ [.lst ((x ++ fb).map .int)]))).calm = .ok (optP blP (padB (x ++ fb))) m := by
  generalize hd : x ++ fb = d at *
  have g : (m ++ [Cell.lst (d.map .int)])[m.length]? = some (.lst (d.map .int)) := get_end
  have l1 : oLen [.cell m.length] (m ++ [Cell.lst (d.map .int)]) = .ok (.int (d.length : Int)) (m ++ [Cell.lst (d.map .int)]) := by
    have : d.length ≤ 100000 := by omega
    simp [mkL_f, mkL_t, wipeP, mulOk, lw_l, lw_c, lv_l, lv_c, lv_x, sv_l, sv_c, sv_x, sv_t, lw_i, lw_s, lw_t, lv_s, lv_t, lv_i, lv_n, add_ii, add_ss, add_tt, add_ll, add_lc, add_cl, add_cc, sub_ii, plus_ii, mul_ii, mul_li, fdv_ii, mod_ii, pow_ii, neg_i, sh_i, sh_s, sh_t, sh_l, sh_n, sh_b, sh_c, eq_nn, ne_nn, eq_ni, ne_ni, eq_in, ne_in, eq_nb, ne_nb, eq_bn, ne_bn, eq_ns, ne_ns, eq_sn, ne_sn, eq_ii, ne_ii, eq_bb, ne_bb, eq_ss, ne_ss, eq_is, ne_is, eq_si, ne_si, eq_bs, ne_bs, eq_sb, ne_sb, isn_n, non_n, isn_i, non_i, isn_b, non_b, isn_s, non_s, isn_t, non_t, isn_l, non_l, isn_c, non_c, isn_x, non_x, tru_n, tru_b, tru_i, tru_t, tru_l, notv_b, ix_t, ix_s, ix_l, ix_x, ix_c, ixl_c, sl_t, sl_s, sl_l, sl_c, rev_l, rev_c, len_t, len_l, len_x, len_s, len_c, list_t, list_l, list_x, list_c, tuple_t, tuple_l, tuple_c, int_i, int_b, abs_i, ord_s, isi_n, isi_b, isi_i, isi_s, isi_t, isi_l, isi_c, kindc, max_ii, min_ii, app_c, ext_c, set_c, sidx_ss, cm_ii, cm_ile, cm_igt, cm_ige, isl_l, isl_c, isl_s, iss_s, iss_l, b_ok, b_st, b_ex, o_ok, o_st, o_ex, c_ok, c_st, c_ex, fin_rt, fin_nx, fin_st, nx_nx, nx_rt, nx_bk, nx_ct, nx_ex, nx_st, e_seq, e_var, e_c, e_op, e_un, e_nil, e_cons, e_call, e_tup, e_lst, e_otup, e_olst, e_gd, e_asg, e_drop, e_ret, e_retN, e_next, e_brk, e_cont, e_ifs, e_setS, e_aug, e_augS, e_tru, e_bl, e_and, e_or, e_not, e_andV, e_orV, e_notV, e_if, e_chain, e_nop, e_part, e_sl, e_iSeq, e_iR1, e_iR2, rngOk_of, rngOk2_of, e_for, e_lc, e_yes, e_mt, e_mt2, e_join, e_put, e_fits, Tg.put, TgL.puts, this]
  have t : (fBl (fOp (oCm .gt) (fCall oLen (fCons (fVar 3) fNil)) (fC (.int 256)))) [a, b, c, some (.cell m.length), o'] (m ++ [.lst (d.map .int)]) = .ok (decide (256 < d.length)) (m ++ [.lst (d.map .int)]) := by
    have q : ((256 : Int) < (d.length : Int)) ↔ 256 < d.length := by omega
    simp only [e_bl, e_op, e_call, e_cons, e_var, List.getElem?_cons_succ, List.getElem?_cons_zero, b_ok, e_nil, l1, e_c, cm_igt, q]
  rw [e_seq, e_ifB t]
  unfold padB
  by_cases hc : 256 < d.length
  · rw [decide_eq_true hc, if_pos rfl, if_neg (by omega), e_ret, e_c, o_ok, nx_rt, fin_rt, cut_end un_non]; rfl
  · rw [decide_eq_false hc, if_neg Bool.false_ne_true, if_pos (by omega), e_next, nx_nx, e_ret]
    have q : (256 : Int) - (d.length : Int) = ((256 - d.length : Nat) : Int) := by omega
    have gg : decide (0 ≤ ((256 - d.length : Nat) : Int) ∧ ((256 - d.length : Nat) : Int) ≤ 100000) = true := decide_eq_true (by omega)
    have a1 : ∀ ys : List P, d.length + ys.length ≤ 100000 → oAdd false (.cell m.length) (.lst ys) (m ++ [Cell.lst (d.map .int)]) = .ok (.lst (d.map .int ++ ys)) (m ++ [Cell.lst (d.map .int)]) := fun ys hy => by
      simp [mkL_f, mkL_t, wipeP, mulOk, lw_l, lw_c, lv_l, lv_c, lv_x, sv_l, sv_c, sv_x, sv_t, lw_i, lw_s, lw_t, lv_s, lv_t, lv_i, lv_n, add_ii, add_ss, add_tt, add_ll, add_lc, add_cl, add_cc, sub_ii, plus_ii, mul_ii, mul_li, fdv_ii, mod_ii, pow_ii, neg_i, sh_i, sh_s, sh_t, sh_l, sh_n, sh_b, sh_c, eq_nn, ne_nn, eq_ni, ne_ni, eq_in, ne_in, eq_nb, ne_nb, eq_bn, ne_bn, eq_ns, ne_ns, eq_sn, ne_sn, eq_ii, ne_ii, eq_bb, ne_bb, eq_ss, ne_ss, eq_is, ne_is, eq_si, ne_si, eq_bs, ne_bs, eq_sb, ne_sb, isn_n, non_n, isn_i, non_i, isn_b, non_b, isn_s, non_s, isn_t, non_t, isn_l, non_l, isn_c, non_c, isn_x, non_x, tru_n, tru_b, tru_i, tru_t, tru_l, notv_b, ix_t, ix_s, ix_l, ix_x, ix_c, ixl_c, sl_t, sl_s, sl_l, sl_c, rev_l, rev_c, len_t, len_l, len_x, len_s, len_c, list_t, list_l, list_x, list_c, tuple_t, tuple_l, tuple_c, int_i, int_b, abs_i, ord_s, isi_n, isi_b, isi_i, isi_s, isi_t, isi_l, isi_c, kindc, max_ii, min_ii, app_c, ext_c, set_c, sidx_ss, cm_ii, cm_ile, cm_igt, cm_ige, isl_l, isl_c, isl_s, iss_s, iss_l, b_ok, b_st, b_ex, o_ok, o_st, o_ex, c_ok, c_st, c_ex, fin_rt, fin_nx, fin_st, nx_nx, nx_rt, nx_bk, nx_ct, nx_ex, nx_st, e_seq, e_var, e_c, e_op, e_un, e_nil, e_cons, e_call, e_tup, e_lst, e_otup, e_olst, e_gd, e_asg, e_drop, e_ret, e_retN, e_next, e_brk, e_cont, e_ifs, e_setS, e_aug, e_augS, e_tru, e_bl, e_and, e_or, e_not, e_andV, e_orV, e_notV, e_if, e_chain, e_nop, e_part, e_sl, e_iSeq, e_iR1, e_iR2, rngOk_of, rngOk2_of, e_for, e_lc, e_yes, e_mt, e_mt2, e_join, e_put, e_fits, Tg.put, TgL.puts, hy]
    have e2 : (fOp (oMul false) (fLst false (fCons (fC (.int 0)) fNil)) (fOp oSub (fC (.int 256)) (fCall oLen (fCons (fVar 3) fNil)))) [a, b, c, some (.cell m.length), o'] (m ++ [.lst (d.map .int)]) = .ok (.lst (List.replicate (256 - d.length) (.int 0))) (m ++ [.lst (d.map .int)]) := by
      simp only [e_op, e_lst, e_cons, e_c, e_nil, b_ok, e_olst, List.length_cons, List.length_nil, fits_le (show 0 + 1 ≤ 100000 by decide), if_true, mkL_f, e_call, e_var, List.getElem?_cons_succ, List.getElem?_cons_zero, l1, sub_ii, q, mul_li, gg, Int.toNat_natCast]
    rw [e_op]
    simp only [e_var, List.getElem?_cons_succ, List.getElem?_cons_zero, b_ok, e2]
    rw [a1 _ (by rw [List.length_replicate]; omega), o_ok, fin_rt, cut_end (by rw [un_lst, uns_app, uns_ints, uns_all (fun x hx => by rw [List.eq_of_mem_replicate hx]; exact un_int)]; rfl), c_ok]
    simp [optP, blP]
theorem write_leaf (es : List (List Int × List Kv)) (hs : (Pg.leaf es).Small) (m : M) : f_write_page [pgP (.leaf es)] m = .ok (optP blP (wr (.leaf es))) m := by
  obtain ⟨hl, fl, he⟩ := hs
  unfold f_write_page fnC fnF fb_write_page
  simp only [startP, List.map_cons, List.map_nil, List.length_cons, List.length_nil]
  rw [show (List.replicate (5 - (0 + 1)) (none : Option P)) = [none, none, none, none] from rfl]
  simp only [List.cons_append, List.nil_append]
  rw [e_seq, e_asg]
  simp only [e_var, List.getElem?_cons_zero, o_ok, pgP, Tg.put, TgL.puts, List.set_cons_succ, List.set_cons_zero]
  rw [nx_nx, e_seq]
  have t : (fBl (fOp oEq (fVar 1) (fC (.str ("leaf" : Str))))) [some (.tup [.str "leaf", .tup (es.map entP)]), some (.str "leaf"), some (.tup (es.map entP)), none, none] m = .ok true m := by
    simp [mkL_f, mkL_t, wipeP, mulOk, lw_l, lw_c, lv_l, lv_c, lv_x, sv_l, sv_c, sv_x, sv_t, lw_i, lw_s, lw_t, lv_s, lv_t, lv_i, lv_n, add_ii, add_ss, add_tt, add_ll, add_lc, add_cl, add_cc, sub_ii, plus_ii, mul_ii, mul_li, fdv_ii, mod_ii, pow_ii, neg_i, sh_i, sh_s, sh_t, sh_l, sh_n, sh_b, sh_c, eq_nn, ne_nn, eq_ni, ne_ni, eq_in, ne_in, eq_nb, ne_nb, eq_bn, ne_bn, eq_ns, ne_ns, eq_sn, ne_sn, eq_ii, ne_ii, eq_bb, ne_bb, eq_ss, ne_ss, eq_is, ne_is, eq_si, ne_si, eq_bs, ne_bs, eq_sb, ne_sb, isn_n, non_n, isn_i, non_i, isn_b, non_b, isn_s, non_s, isn_t, non_t, isn_l, non_l, isn_c, non_c, isn_x, non_x, tru_n, tru_b, tru_i, tru_t, tru_l, notv_b, ix_t, ix_s, ix_l, ix_x, ix_c, ixl_c, sl_t, sl_s, sl_l, sl_c, rev_l, rev_c, len_t, len_l, len_x, len_s, len_c, list_t, list_l, list_x, list_c, tuple_t, tuple_l, tuple_c, int_i, int_b, abs_i, ord_s, isi_n, isi_b, isi_i, isi_s, isi_t, isi_l, isi_c, kindc, max_ii, min_ii, app_c, ext_c, set_c, sidx_ss, cm_ii, cm_ile, cm_igt, cm_ige, isl_l, isl_c, isl_s, iss_s, iss_l, b_ok, b_st, b_ex, o_ok, o_st, o_ex, c_ok, c_st, c_ex, fin_rt, fin_nx, fin_st, nx_nx, nx_rt, nx_bk, nx_ct, nx_ex, nx_st, e_seq, e_var, e_c, e_op, e_un, e_nil, e_cons, e_call, e_tup, e_lst, e_otup, e_olst, e_gd, e_asg, e_drop, e_ret, e_retN, e_next, e_brk, e_cont, e_ifs, e_setS, e_aug, e_augS, e_tru, e_bl, e_and, e_or, e_not, e_andV, e_orV, e_notV, e_if, e_chain, e_nop, e_part, e_sl, e_iSeq, e_iR1, e_iR2, rngOk_of, rngOk2_of, e_for, e_lc, e_yes, e_mt, e_mt2, e_join, e_put, e_fits, Tg.put, TgL.puts]
  rw [e_ifT t, e_seq]
  have e1 : (fAsg (.name 3) (fLst true (fCons (fC (.int 0)) (fCons (fCall oLen (fCons (fVar 2) fNil)) fNil)))) [some (.tup [.str "leaf", .tup (es.map entP)]), some (.str "leaf"), some (.tup (es.map entP)), none, none] m = .nx [some (.tup [.str "leaf", .tup (es.map entP)]), some (.str "leaf"), some (.tup (es.map entP)), some (.cell m.length), none] (m ++ [.lst (([0, lenI es] : List Int).map .int)]) := by
    simp [mkL_f, mkL_t, wipeP, mulOk, lw_l, lw_c, lv_l, lv_c, lv_x, sv_l, sv_c, sv_x, sv_t, lw_i, lw_s, lw_t, lv_s, lv_t, lv_i, lv_n, add_ii, add_ss, add_tt, add_ll, add_lc, add_cl, add_cc, sub_ii, plus_ii, mul_ii, mul_li, fdv_ii, mod_ii, pow_ii, neg_i, sh_i, sh_s, sh_t, sh_l, sh_n, sh_b, sh_c, eq_nn, ne_nn, eq_ni, ne_ni, eq_in, ne_in, eq_nb, ne_nb, eq_bn, ne_bn, eq_ns, ne_ns, eq_sn, ne_sn, eq_ii, ne_ii, eq_bb, ne_bb, eq_ss, ne_ss, eq_is, ne_is, eq_si, ne_si, eq_bs, ne_bs, eq_sb, ne_sb, isn_n, non_n, isn_i, non_i, isn_b, non_b, isn_s, non_s, isn_t, non_t, isn_l, non_l, isn_c, non_c, isn_x, non_x, tru_n, tru_b, tru_i, tru_t, tru_l, notv_b, ix_t, ix_s, ix_l, ix_x, ix_c, ixl_c, sl_t, sl_s, sl_l, sl_c, rev_l, rev_c, len_t, len_l, len_x, len_s, len_c, list_t, list_l, list_x, list_c, tuple_t, tuple_l, tuple_c, int_i, int_b, abs_i, ord_s, isi_n, isi_b, isi_i, isi_s, isi_t, isi_l, isi_c, kindc, max_ii, min_ii, app_c, ext_c, set_c, sidx_ss, cm_ii, cm_ile, cm_igt, cm_ige, isl_l, isl_c, isl_s, iss_s, iss_l, b_ok, b_st, b_ex, o_ok, o_st, o_ex, c_ok, c_st, c_ex, fin_rt, fin_nx, fin_st, nx_nx, nx_rt, nx_bk, nx_ct, nx_ex, nx_st, e_seq, e_var, e_c, e_op, e_un, e_nil, e_cons, e_call, e_tup, e_lst, e_otup, e_olst, e_gd, e_asg, e_drop, e_ret, e_retN, e_next, e_brk, e_cont, e_ifs, e_setS, e_aug, e_augS, e_tru, e_bl, e_and, e_or, e_not, e_andV, e_orV, e_notV, e_if, e_chain, e_nop, e_part, e_sl, e_iSeq, e_iR1, e_iR2, rngOk_of, rngOk2_of, e_for, e_lc, e_yes, e_mt, e_mt2, e_join, e_put, e_fits, Tg.put, TgL.puts, lenI]
  rw [e1, nx_nx]
  obtain ⟨o', ho⟩ := ext_loop (pf := entP) (fb := entB) (fn := f_entry_bytes) (m := m) (a := some (.tup [.str "leaf", .tup (es.map entP)])) (b := some (.str "leaf")) (c := some (.tup (es.map entP))) es [0, lenI es] none (fun e h m => let ⟨q1, q2, q3⟩ := he e h; entry_bytes_k q1 q2 q3 m) (by simp; omega)
  rw [e_for, e_iSeq]
  simp only [e_var, List.getElem?_cons_succ, List.getElem?_cons_zero, b_ok, o_ok]
  rw [ho, nx_nx]
  exact pad_end (fb := flatB entB es) (x := [0, lenI es]) (by simp; omega)
theorem write_inner (es : List (List Int × Int)) (hs : (Pg.inner es).Small) (m : M) : f_write_page [pgP (.inner es)] m = .ok (optP blP (wr (.inner es))) m := by
  obtain ⟨hl, fl, he⟩ := hs
  unfold f_write_page fnC fnF fb_write_page
  simp only [startP, List.map_cons, List.map_nil, List.length_cons, List.length_nil]
  rw [show (List.replicate (5 - (0 + 1)) (none : Option P)) = [none, none, none, none] from rfl]
  simp only [List.cons_append, List.nil_append]
  rw [e_seq, e_asg]
  simp only [e_var, List.getElem?_cons_zero, o_ok, pgP, Tg.put, TgL.puts, List.set_cons_succ, List.set_cons_zero]
  rw [nx_nx, e_seq]
  have t : (fBl (fOp oEq (fVar 1) (fC (.str ("leaf" : Str))))) [some (.tup [.str "inner", .tup (es.map chiP)]), some (.str "inner"), some (.tup (es.map chiP)), none, none] m = .ok false m := by
    have q : ¬ (("inner" : Str) = ("leaf" : Str)) := by decide +kernel
    simp [mkL_f, mkL_t, wipeP, mulOk, lw_l, lw_c, lv_l, lv_c, lv_x, sv_l, sv_c, sv_x, sv_t, lw_i, lw_s, lw_t, lv_s, lv_t, lv_i, lv_n, add_ii, add_ss, add_tt, add_ll, add_lc, add_cl, add_cc, sub_ii, plus_ii, mul_ii, mul_li, fdv_ii, mod_ii, pow_ii, neg_i, sh_i, sh_s, sh_t, sh_l, sh_n, sh_b, sh_c, eq_nn, ne_nn, eq_ni, ne_ni, eq_in, ne_in, eq_nb, ne_nb, eq_bn, ne_bn, eq_ns, ne_ns, eq_sn, ne_sn, eq_ii, ne_ii, eq_bb, ne_bb, eq_ss, ne_ss, eq_is, ne_is, eq_si, ne_si, eq_bs, ne_bs, eq_sb, ne_sb, isn_n, non_n, isn_i, non_i, isn_b, non_b, isn_s, non_s, isn_t, non_t, isn_l, non_l, isn_c, non_c, isn_x, non_x, tru_n, tru_b, tru_i, tru_t, tru_l, notv_b, ix_t, ix_s, ix_l, ix_x, ix_c, ixl_c, sl_t, sl_s, sl_l, sl_c, rev_l, rev_c, len_t, len_l, len_x, len_s, len_c, list_t, list_l, list_x, list_c, tuple_t, tuple_l, tuple_c, int_i, int_b, abs_i, ord_s, isi_n, isi_b, isi_i, isi_s, isi_t, isi_l, isi_c, kindc, max_ii, min_ii, app_c, ext_c, set_c, sidx_ss, cm_ii, cm_ile, cm_igt, cm_ige, isl_l, isl_c, isl_s, iss_s, iss_l, b_ok, b_st, b_ex, o_ok, o_st, o_ex, c_ok, c_st, c_ex, fin_rt, fin_nx, fin_st, nx_nx, nx_rt, nx_bk, nx_ct, nx_ex, nx_st, e_seq, e_var, e_c, e_op, e_un, e_nil, e_cons, e_call, e_tup, e_lst, e_otup, e_olst, e_gd, e_asg, e_drop, e_ret, e_retN, e_next, e_brk, e_cont, e_ifs, e_setS, e_aug, e_augS, e_tru, e_bl, e_and, e_or, e_not, e_andV, e_orV, e_notV, e_if, e_chain, e_nop, e_part, e_sl, e_iSeq, e_iR1, e_iR2, rngOk_of, rngOk2_of, e_for, e_lc, e_yes, e_mt, e_mt2, e_join, e_put, e_fits, Tg.put, TgL.puts, q]
  rw [e_ifF t, e_seq]
  have e1 : (fAsg (.name 3) (fLst true (fCons (fC (.int 1)) (fCons (fCall oLen (fCons (fVar 2) fNil)) fNil)))) [some (.tup [.str "inner", .tup (es.map chiP)]), some (.str "inner"), some (.tup (es.map chiP)), none, none] m = .nx [some (.tup [.str "inner", .tup (es.map chiP)]), some (.str "inner"), some (.tup (es.map chiP)), some (.cell m.length), none] (m ++ [.lst (([1, lenI es] : List Int).map .int)]) := by
    simp [mkL_f, mkL_t, wipeP, mulOk, lw_l, lw_c, lv_l, lv_c, lv_x, sv_l, sv_c, sv_x, sv_t, lw_i, lw_s, lw_t, lv_s, lv_t, lv_i, lv_n, add_ii, add_ss, add_tt, add_ll, add_lc, add_cl, add_cc, sub_ii, plus_ii, mul_ii, mul_li, fdv_ii, mod_ii, pow_ii, neg_i, sh_i, sh_s, sh_t, sh_l, sh_n, sh_b, sh_c, eq_nn, ne_nn, eq_ni, ne_ni, eq_in, ne_in, eq_nb, ne_nb, eq_bn, ne_bn, eq_ns, ne_ns, eq_sn, ne_sn, eq_ii, ne_ii, eq_bb, ne_bb, eq_ss, ne_ss, eq_is, ne_is, eq_si, ne_si, eq_bs, ne_bs, eq_sb, ne_sb, isn_n, non_n, isn_i, non_i, isn_b, non_b, isn_s, non_s, isn_t, non_t, isn_l, non_l, isn_c, non_c, isn_x, non_x, tru_n, tru_b, tru_i, tru_t, tru_l, notv_b, ix_t, ix_s, ix_l, ix_x, ix_c, ixl_c, sl_t, sl_s, sl_l, sl_c, rev_l, rev_c, len_t, len_l, len_x, len_s, len_c, list_t, list_l, list_x, list_c, tuple_t, tuple_l, tuple_c, int_i, int_b, abs_i, ord_s, isi_n, isi_b, isi_i, isi_s, isi_t, isi_l, isi_c, kindc, max_ii, min_ii, app_c, ext_c, set_c, sidx_ss, cm_ii, cm_ile, cm_igt, cm_ige, isl_l, isl_c, isl_s, iss_s, iss_l, b_ok, b_st, b_ex, o_ok, o_st, o_ex, c_ok, c_st, c_ex, fin_rt, fin_nx, fin_st, nx_nx, nx_rt, nx_bk, nx_ct, nx_ex, nx_st, e_seq, e_var, e_c, e_op, e_un, e_nil, e_cons, e_call, e_tup, e_lst, e_otup, e_olst, e_gd, e_asg, e_drop, e_ret, e_retN, e_next, e_brk, e_cont, e_ifs, e_setS, e_aug, e_augS, e_tru, e_bl, e_and, e_or, e_not, e_andV, e_orV, e_notV, e_if, e_chain, e_nop, e_part, e_sl, e_iSeq, e_iR1, e_iR2, rngOk_of, rngOk2_of, e_for, e_lc, e_yes, e_mt, e_mt2, e_join, e_put, e_fits, Tg.put, TgL.puts, lenI]
  rw [e1, nx_nx]
  obtain ⟨o', ho⟩ := ext_loop (pf := chiP) (fb := chiB) (fn := f_child_bytes) (m := m) (a := some (.tup [.str "inner", .tup (es.map chiP)])) (b := some (.str "inner")) (c := some (.tup (es.map chiP))) es [1, lenI es] none (fun e h m => child_bytes_k (he e h) m) (by simp; omega)
  rw [e_for, e_iSeq]
  simp only [e_var, List.getElem?_cons_succ, List.getElem?_cons_zero, b_ok, o_ok]
  rw [ho, nx_nx]
  exact pad_end (fb := flatB chiB es) (x := [1, lenI es]) (by simp; omega)
theorem write_page_k (p : Pg) (hs : p.Small) (m : M) : f_write_page [pgP p] m = .ok (optP blP (wr p)) m := by
  cases p with
  | leaf es => exact write_leaf es hs m
  | inner cs => exact write_inner cs hs m

end
/-! PV -/
section
open PySem PySem.Spec PyProof.Rows
/-! PV: the law's own bytes of a page -/
theorem pb_leaf {m : M} {kk : P} {a : Option P} (hk : a = some (.tup [.str "leaf", kk])) : ∀ (es : List (List Int × List Kv)) (acc : List Int) (o2 o3 o4 : Option P), (∀ e ∈ es, e.1.length ≤ 300 ∧ e.2.length ≤ 200 ∧ ∀ v ∈ e.2, v.Good) → acc.length + (flatB entB es).length ≤ 95000 →
    ∃ p2 p3 p4, forG (.tup (.cons (.name 2) (.cons (.name 3) TgL.nil))) (fIfS (fBl (fOp oEq (fOp oIx (fVar 0) (fC (.int 0))) (fC (.str ("inner" : Str))))) (fAsg (.name 1) (fOp (oAdd false) (fOp (oAdd false) (fVar 1) (fLst false (fCons (fOp oFdv (fVar 3) (fC (.int 256))) (fCons (fOp oMod (fVar 3) (fC (.int 256))) (fCons (fCall oLen (fCons (fVar 2) fNil)) fNil))))) (fCall (oList false) (fCons (fVar 2) fNil)))) (fSeq (fAsg (.name 4) (fCall (oList false) (fCons (fCall (gd 1 f_bytes) (fCons (fVar 3) fNil)) fNil)))
  (fAsg (.name 1) (fOp (oAdd false) (fOp (oAdd false) (fOp (oAdd false) (fOp (oAdd false) (fVar 1) (fLst false (fCons (fCall oLen (fCons (fVar 2) fNil)) fNil))) (fCall (oList false) (fCons (fVar 2) fNil))) (fLst false (fCons (fCall oLen (fCons (fVar 4) fNil)) fNil))) (fVar 4))))) [] (es.map entP) [a, some (blP acc), o2, o3, o4] m = .nx [a, some (blP (acc ++ flatB entB es)), p2, p3, p4] m := by
  subst hk
  intro es
  induction es with
  | nil => intro acc o2 o3 o4 _ _; exact ⟨o2, o3, o4, by simp [forG_nil, flatB]⟩
  | cons e es ih =>
    intro acc o2 o3 o4 he hl
    obtain ⟨q1, q2, q3⟩ := he e List.mem_cons_self
    rw [flatB, List.length_append] at hl
    obtain ⟨p2, p3, p4, hp⟩ := ih (acc ++ entB e) (some (ip e.1)) (some (.tup (e.2.map kp))) (some (blP (keyB e.2))) (fun x hx => he x (List.mem_cons_of_mem _ hx)) (by rw [List.length_append]; omega)
    refine ⟨p2, p3, p4, ?_⟩
    have hb := lbytes_k q3 (by omega) m
    have hq : (entB e).length = e.1.length + (keyB e.2).length + 2 := by simp [entB]; omega
    obtain ⟨k, vs⟩ := e
    simp only at q1 q2 q3 hb hq hp hl
    rw [List.map_cons, forG_cons]
    have nq : ¬ (("leaf" : Str) = ("inner" : Str)) := by decide +kernel
    generalize hw : keyB vs = w at *
    simp only [entP, Tg.put, TgL.puts, List.set_cons_succ, List.set_cons_zero]
    have t : (fBl (fOp oEq (fOp oIx (fVar 0) (fC (.int 0))) (fC (.str ("inner" : Str))))) [some (.tup [.str "leaf", kk]), some (blP acc), some (ip k), some (.tup (vs.map kp)), o4] m = .ok false m := by
      simp [mkL_f, mkL_t, wipeP, mulOk, lw_l, lw_c, lv_l, lv_c, lv_x, sv_l, sv_c, sv_x, sv_t, lw_i, lw_s, lw_t, lv_s, lv_t, lv_i, lv_n, add_ii, add_ss, add_tt, add_ll, add_lc, add_cl, add_cc, sub_ii, plus_ii, mul_ii, mul_li, fdv_ii, mod_ii, pow_ii, neg_i, sh_i, sh_s, sh_t, sh_l, sh_n, sh_b, sh_c, eq_nn, ne_nn, eq_ni, ne_ni, eq_in, ne_in, eq_nb, ne_nb, eq_bn, ne_bn, eq_ns, ne_ns, eq_sn, ne_sn, eq_ii, ne_ii, eq_bb, ne_bb, eq_ss, ne_ss, eq_is, ne_is, eq_si, ne_si, eq_bs, ne_bs, eq_sb, ne_sb, isn_n, non_n, isn_i, non_i, isn_b, non_b, isn_s, non_s, isn_t, non_t, isn_l, non_l, isn_c, non_c, isn_x, non_x, tru_n, tru_b, tru_i, tru_t, tru_l, notv_b, ix_t, ix_s, ix_l, ix_x, ix_c, ixl_c, sl_t, sl_s, sl_l, sl_c, rev_l, rev_c, len_t, len_l, len_x, len_s, len_c, list_t, list_l, list_x, list_c, tuple_t, tuple_l, tuple_c, int_i, int_b, abs_i, ord_s, isi_n, isi_b, isi_i, isi_s, isi_t, isi_l, isi_c, kindc, max_ii, min_ii, app_c, ext_c, set_c, sidx_ss, cm_ii, cm_ile, cm_igt, cm_ige, isl_l, isl_c, isl_s, iss_s, iss_l, b_ok, b_st, b_ex, o_ok, o_st, o_ex, c_ok, c_st, c_ex, fin_rt, fin_nx, fin_st, nx_nx, nx_rt, nx_bk, nx_ct, nx_ex, nx_st, e_seq, e_var, e_c, e_op, e_un, e_nil, e_cons, e_call, e_tup, e_lst, e_otup, e_olst, e_gd, e_asg, e_drop, e_ret, e_retN, e_next, e_brk, e_cont, e_ifs, e_setS, e_aug, e_augS, e_tru, e_bl, e_and, e_or, e_not, e_andV, e_orV, e_notV, e_if, e_chain, e_nop, e_part, e_sl, e_iSeq, e_iR1, e_iR2, rngOk_of, rngOk2_of, e_for, e_lc, e_yes, e_mt, e_mt2, e_join, e_put, e_fits, Tg.put, TgL.puts, nq, atI_0]
    rw [e_ifF t, e_seq]
    have e1 : (fAsg (.name 4) (fCall (oList false) (fCons (fCall (gd 1 f_bytes) (fCons (fVar 3) fNil)) fNil))) [some (.tup [.str "leaf", kk]), some (blP acc), some (ip k), some (.tup (vs.map kp)), o4] m = .nx [some (.tup [.str "leaf", kk]), some (blP acc), some (ip k), some (.tup (vs.map kp)), some (blP w)] m := by
      have g1 : gd 1 f_bytes [.tup (vs.map kp)] m = .ok (ip w) m := by rw [e_gd, if_pos (show [P.tup (vs.map kp)].length = 1 from rfl), hb]
      have g2 : oList false [ip w] m = .ok (blP w) m := by simp [mkL_f, mkL_t, wipeP, mulOk, lw_l, lw_c, lv_l, lv_c, lv_x, sv_l, sv_c, sv_x, sv_t, lw_i, lw_s, lw_t, lv_s, lv_t, lv_i, lv_n, add_ii, add_ss, add_tt, add_ll, add_lc, add_cl, add_cc, sub_ii, plus_ii, mul_ii, mul_li, fdv_ii, mod_ii, pow_ii, neg_i, sh_i, sh_s, sh_t, sh_l, sh_n, sh_b, sh_c, eq_nn, ne_nn, eq_ni, ne_ni, eq_in, ne_in, eq_nb, ne_nb, eq_bn, ne_bn, eq_ns, ne_ns, eq_sn, ne_sn, eq_ii, ne_ii, eq_bb, ne_bb, eq_ss, ne_ss, eq_is, ne_is, eq_si, ne_si, eq_bs, ne_bs, eq_sb, ne_sb, isn_n, non_n, isn_i, non_i, isn_b, non_b, isn_s, non_s, isn_t, non_t, isn_l, non_l, isn_c, non_c, isn_x, non_x, tru_n, tru_b, tru_i, tru_t, tru_l, notv_b, ix_t, ix_s, ix_l, ix_x, ix_c, ixl_c, sl_t, sl_s, sl_l, sl_c, rev_l, rev_c, len_t, len_l, len_x, len_s, len_c, list_t, list_l, list_x, list_c, tuple_t, tuple_l, tuple_c, int_i, int_b, abs_i, ord_s, isi_n, isi_b, isi_i, isi_s, isi_t, isi_l, isi_c, kindc, max_ii, min_ii, app_c, ext_c, set_c, sidx_ss, cm_ii, cm_ile, cm_igt, cm_ige, isl_l, isl_c, isl_s, iss_s, iss_l, b_ok, b_st, b_ex, o_ok, o_st, o_ex, c_ok, c_st, c_ex, fin_rt, fin_nx, fin_st, nx_nx, nx_rt, nx_bk, nx_ct, nx_ex, nx_st, e_seq, e_var, e_c, e_op, e_un, e_nil, e_cons, e_call, e_tup, e_lst, e_otup, e_olst, e_gd, e_asg, e_drop, e_ret, e_retN, e_next, e_brk, e_cont, e_ifs, e_setS, e_aug, e_augS, e_tru, e_bl, e_and, e_or, e_not, e_andV, e_orV, e_notV, e_if, e_chain, e_nop, e_part, e_sl, e_iSeq, e_iR1, e_iR2, rngOk_of, rngOk2_of, e_for, e_lc, e_yes, e_mt, e_mt2, e_join, e_put, e_fits, Tg.put, TgL.puts, ip, blP]
      rw [e_asg]
      simp only [e_call, e_cons, e_var, List.getElem?_cons_succ, List.getElem?_cons_zero, b_ok, e_nil, g1, g2, o_ok, Tg.put, List.set_cons_succ, List.set_cons_zero]
    rw [e1, nx_nx]
    have e2 : (fAsg (.name 1) (fOp (oAdd false) (fOp (oAdd false) (fOp (oAdd false) (fOp (oAdd false) (fVar 1) (fLst false (fCons (fCall oLen (fCons (fVar 2) fNil)) fNil))) (fCall (oList false) (fCons (fVar 2) fNil))) (fLst false (fCons (fCall oLen (fCons (fVar 4) fNil)) fNil))) (fVar 4))) [some (.tup [.str "leaf", kk]), some (blP acc), some (ip k), some (.tup (vs.map kp)), some (blP w)] m = .nx [some (.tup [.str "leaf", kk]), some (blP (acc ++ entB (k, vs))), some (ip k), some (.tup (vs.map kp)), some (blP w)] m := by
      have l1 : oLen [ip k] m = .ok (.int (k.length : Int)) m := by simp [mkL_f, mkL_t, wipeP, mulOk, lw_l, lw_c, lv_l, lv_c, lv_x, sv_l, sv_c, sv_x, sv_t, lw_i, lw_s, lw_t, lv_s, lv_t, lv_i, lv_n, add_ii, add_ss, add_tt, add_ll, add_lc, add_cl, add_cc, sub_ii, plus_ii, mul_ii, mul_li, fdv_ii, mod_ii, pow_ii, neg_i, sh_i, sh_s, sh_t, sh_l, sh_n, sh_b, sh_c, eq_nn, ne_nn, eq_ni, ne_ni, eq_in, ne_in, eq_nb, ne_nb, eq_bn, ne_bn, eq_ns, ne_ns, eq_sn, ne_sn, eq_ii, ne_ii, eq_bb, ne_bb, eq_ss, ne_ss, eq_is, ne_is, eq_si, ne_si, eq_bs, ne_bs, eq_sb, ne_sb, isn_n, non_n, isn_i, non_i, isn_b, non_b, isn_s, non_s, isn_t, non_t, isn_l, non_l, isn_c, non_c, isn_x, non_x, tru_n, tru_b, tru_i, tru_t, tru_l, notv_b, ix_t, ix_s, ix_l, ix_x, ix_c, ixl_c, sl_t, sl_s, sl_l, sl_c, rev_l, rev_c, len_t, len_l, len_x, len_s, len_c, list_t, list_l, list_x, list_c, tuple_t, tuple_l, tuple_c, int_i, int_b, abs_i, ord_s, isi_n, isi_b, isi_i, isi_s, isi_t, isi_l, isi_c, kindc, max_ii, min_ii, app_c, ext_c, set_c, sidx_ss, cm_ii, cm_ile, cm_igt, cm_ige, isl_l, isl_c, isl_s, iss_s, iss_l, b_ok, b_st, b_ex, o_ok, o_st, o_ex, c_ok, c_st, c_ex, fin_rt, fin_nx, fin_st, nx_nx, nx_rt, nx_bk, nx_ct, nx_ex, nx_st, e_seq, e_var, e_c, e_op, e_un, e_nil, e_cons, e_call, e_tup, e_lst, e_otup, e_olst, e_gd, e_asg, e_drop, e_ret, e_retN, e_next, e_brk, e_cont, e_ifs, e_setS, e_aug, e_augS, e_tru, e_bl, e_and, e_or, e_not, e_andV, e_orV, e_notV, e_if, e_chain, e_nop, e_part, e_sl, e_iSeq, e_iR1, e_iR2, rngOk_of, rngOk2_of, e_for, e_lc, e_yes, e_mt, e_mt2, e_join, e_put, e_fits, Tg.put, TgL.puts, ip]
      have l2 : oLen [blP w] m = .ok (.int (w.length : Int)) m := by
        have : w.length ≤ 100000 := by omega
        simp [mkL_f, mkL_t, wipeP, mulOk, lw_l, lw_c, lv_l, lv_c, lv_x, sv_l, sv_c, sv_x, sv_t, lw_i, lw_s, lw_t, lv_s, lv_t, lv_i, lv_n, add_ii, add_ss, add_tt, add_ll, add_lc, add_cl, add_cc, sub_ii, plus_ii, mul_ii, mul_li, fdv_ii, mod_ii, pow_ii, neg_i, sh_i, sh_s, sh_t, sh_l, sh_n, sh_b, sh_c, eq_nn, ne_nn, eq_ni, ne_ni, eq_in, ne_in, eq_nb, ne_nb, eq_bn, ne_bn, eq_ns, ne_ns, eq_sn, ne_sn, eq_ii, ne_ii, eq_bb, ne_bb, eq_ss, ne_ss, eq_is, ne_is, eq_si, ne_si, eq_bs, ne_bs, eq_sb, ne_sb, isn_n, non_n, isn_i, non_i, isn_b, non_b, isn_s, non_s, isn_t, non_t, isn_l, non_l, isn_c, non_c, isn_x, non_x, tru_n, tru_b, tru_i, tru_t, tru_l, notv_b, ix_t, ix_s, ix_l, ix_x, ix_c, ixl_c, sl_t, sl_s, sl_l, sl_c, rev_l, rev_c, len_t, len_l, len_x, len_s, len_c, list_t, list_l, list_x, list_c, tuple_t, tuple_l, tuple_c, int_i, int_b, abs_i, ord_s, isi_n, isi_b, isi_i, isi_s, isi_t, isi_l, isi_c, kindc, max_ii, min_ii, app_c, ext_c, set_c, sidx_ss, cm_ii, cm_ile, cm_igt, cm_ige, isl_l, isl_c, isl_s, iss_s, iss_l, b_ok, b_st, b_ex, o_ok, o_st, o_ex, c_ok, c_st, c_ex, fin_rt, fin_nx, fin_st, nx_nx, nx_rt, nx_bk, nx_ct, nx_ex, nx_st, e_seq, e_var, e_c, e_op, e_un, e_nil, e_cons, e_call, e_tup, e_lst, e_otup, e_olst, e_gd, e_asg, e_drop, e_ret, e_retN, e_next, e_brk, e_cont, e_ifs, e_setS, e_aug, e_augS, e_tru, e_bl, e_and, e_or, e_not, e_andV, e_orV, e_notV, e_if, e_chain, e_nop, e_part, e_sl, e_iSeq, e_iR1, e_iR2, rngOk_of, rngOk2_of, e_for, e_lc, e_yes, e_mt, e_mt2, e_join, e_put, e_fits, Tg.put, TgL.puts, blP, this]
      have k1 : oList false [ip k] m = .ok (.lst (k.map .int)) m := by simp [mkL_f, mkL_t, wipeP, mulOk, lw_l, lw_c, lv_l, lv_c, lv_x, sv_l, sv_c, sv_x, sv_t, lw_i, lw_s, lw_t, lv_s, lv_t, lv_i, lv_n, add_ii, add_ss, add_tt, add_ll, add_lc, add_cl, add_cc, sub_ii, plus_ii, mul_ii, mul_li, fdv_ii, mod_ii, pow_ii, neg_i, sh_i, sh_s, sh_t, sh_l, sh_n, sh_b, sh_c, eq_nn, ne_nn, eq_ni, ne_ni, eq_in, ne_in, eq_nb, ne_nb, eq_bn, ne_bn, eq_ns, ne_ns, eq_sn, ne_sn, eq_ii, ne_ii, eq_bb, ne_bb, eq_ss, ne_ss, eq_is, ne_is, eq_si, ne_si, eq_bs, ne_bs, eq_sb, ne_sb, isn_n, non_n, isn_i, non_i, isn_b, non_b, isn_s, non_s, isn_t, non_t, isn_l, non_l, isn_c, non_c, isn_x, non_x, tru_n, tru_b, tru_i, tru_t, tru_l, notv_b, ix_t, ix_s, ix_l, ix_x, ix_c, ixl_c, sl_t, sl_s, sl_l, sl_c, rev_l, rev_c, len_t, len_l, len_x, len_s, len_c, list_t, list_l, list_x, list_c, tuple_t, tuple_l, tuple_c, int_i, int_b, abs_i, ord_s, isi_n, isi_b, isi_i, isi_s, isi_t, isi_l, isi_c, kindc, max_ii, min_ii, app_c, ext_c, set_c, sidx_ss, cm_ii, cm_ile, cm_igt, cm_ige, isl_l, isl_c, isl_s, iss_s, iss_l, b_ok, b_st, b_ex, o_ok, o_st, o_ex, c_ok, c_st, c_ex, fin_rt, fin_nx, fin_st, nx_nx, nx_rt, nx_bk, nx_ct, nx_ex, nx_st, e_seq, e_var, e_c, e_op, e_un, e_nil, e_cons, e_call, e_tup, e_lst, e_otup, e_olst, e_gd, e_asg, e_drop, e_ret, e_retN, e_next, e_brk, e_cont, e_ifs, e_setS, e_aug, e_augS, e_tru, e_bl, e_and, e_or, e_not, e_andV, e_orV, e_notV, e_if, e_chain, e_nop, e_part, e_sl, e_iSeq, e_iR1, e_iR2, rngOk_of, rngOk2_of, e_for, e_lc, e_yes, e_mt, e_mt2, e_join, e_put, e_fits, Tg.put, TgL.puts, ip]
      have f1 : ∀ d : P, oLst false [d] m = .ok (.lst [d]) m := fun d => by rw [e_olst, if_pos (fits_of (by show 1 ≤ 100000; decide)), mkL_f]
      rw [e_asg]
      simp only [e_op, e_lst, e_call, e_cons, e_var, List.getElem?_cons_succ, List.getElem?_cons_zero, b_ok, e_nil, l1, f1, blP]
      rw [addL (by simp; omega)]
      simp only [b_ok, k1]
      rw [addL (by simp; omega)]
      simp only [b_ok]
      rw [show P.lst (w.map .int) = blP w from rfl, l2]
      simp only [b_ok, f1]
      rw [addL (by simp; omega), b_ok, blP, addL (by simp; omega), o_ok]
      simp [entB, lenI, hw]
      rfl
    rw [e2]
    rw [flatB, ← List.append_assoc]
    exact hp
theorem pb_inner {m : M} {kk : P} {a : Option P} (hk : a = some (.tup [.str "inner", kk])) : ∀ (es : List (List Int × Int)) (acc : List Int) (o2 o3 o4 : Option P), (∀ e ∈ es, e.1.length ≤ 300) → acc.length + (flatB chiB es).length ≤ 95000 →
    ∃ p2 p3 p4, forG (.tup (.cons (.name 2) (.cons (.name 3) TgL.nil))) (fIfS (fBl (fOp oEq (fOp oIx (fVar 0) (fC (.int 0))) (fC (.str ("inner" : Str))))) (fAsg (.name 1) (fOp (oAdd false) (fOp (oAdd false) (fVar 1) (fLst false (fCons (fOp oFdv (fVar 3) (fC (.int 256))) (fCons (fOp oMod (fVar 3) (fC (.int 256))) (fCons (fCall oLen (fCons (fVar 2) fNil)) fNil))))) (fCall (oList false) (fCons (fVar 2) fNil)))) (fSeq (fAsg (.name 4) (fCall (oList false) (fCons (fCall (gd 1 f_bytes) (fCons (fVar 3) fNil)) fNil)))
  (fAsg (.name 1) (fOp (oAdd false) (fOp (oAdd false) (fOp (oAdd false) (fOp (oAdd false) (fVar 1) (fLst false (fCons (fCall oLen (fCons (fVar 2) fNil)) fNil))) (fCall (oList false) (fCons (fVar 2) fNil))) (fLst false (fCons (fCall oLen (fCons (fVar 4) fNil)) fNil))) (fVar 4))))) [] (es.map chiP) [a, some (blP acc), o2, o3, o4] m = .nx [a, some (blP (acc ++ flatB chiB es)), p2, p3, p4] m := by
  subst hk
  intro es
  induction es with
  | nil => intro acc o2 o3 o4 _ _; exact ⟨o2, o3, o4, by simp [forG_nil, flatB]⟩
  | cons e es ih =>
    intro acc o2 o3 o4 he hl
    have q1 := he e List.mem_cons_self
    rw [flatB, List.length_append] at hl
    obtain ⟨p2, p3, p4, hp⟩ := ih (acc ++ chiB e) (some (ip e.1)) (some (.int e.2)) o4 (fun x hx => he x (List.mem_cons_of_mem _ hx)) (by rw [List.length_append]; omega)
    refine ⟨p2, p3, p4, ?_⟩
    have hq : (chiB e).length = e.1.length + 3 := by simp [chiB]
    obtain ⟨k, v⟩ := e
    simp only at q1 hq hp hl
    rw [List.map_cons, forG_cons]
    simp only [chiP, Tg.put, TgL.puts, List.set_cons_succ, List.set_cons_zero]
    have t : (fBl (fOp oEq (fOp oIx (fVar 0) (fC (.int 0))) (fC (.str ("inner" : Str))))) [some (.tup [.str "inner", kk]), some (blP acc), some (ip k), some (.int v), o4] m = .ok true m := by
      simp [mkL_f, mkL_t, wipeP, mulOk, lw_l, lw_c, lv_l, lv_c, lv_x, sv_l, sv_c, sv_x, sv_t, lw_i, lw_s, lw_t, lv_s, lv_t, lv_i, lv_n, add_ii, add_ss, add_tt, add_ll, add_lc, add_cl, add_cc, sub_ii, plus_ii, mul_ii, mul_li, fdv_ii, mod_ii, pow_ii, neg_i, sh_i, sh_s, sh_t, sh_l, sh_n, sh_b, sh_c, eq_nn, ne_nn, eq_ni, ne_ni, eq_in, ne_in, eq_nb, ne_nb, eq_bn, ne_bn, eq_ns, ne_ns, eq_sn, ne_sn, eq_ii, ne_ii, eq_bb, ne_bb, eq_ss, ne_ss, eq_is, ne_is, eq_si, ne_si, eq_bs, ne_bs, eq_sb, ne_sb, isn_n, non_n, isn_i, non_i, isn_b, non_b, isn_s, non_s, isn_t, non_t, isn_l, non_l, isn_c, non_c, isn_x, non_x, tru_n, tru_b, tru_i, tru_t, tru_l, notv_b, ix_t, ix_s, ix_l, ix_x, ix_c, ixl_c, sl_t, sl_s, sl_l, sl_c, rev_l, rev_c, len_t, len_l, len_x, len_s, len_c, list_t, list_l, list_x, list_c, tuple_t, tuple_l, tuple_c, int_i, int_b, abs_i, ord_s, isi_n, isi_b, isi_i, isi_s, isi_t, isi_l, isi_c, kindc, max_ii, min_ii, app_c, ext_c, set_c, sidx_ss, cm_ii, cm_ile, cm_igt, cm_ige, isl_l, isl_c, isl_s, iss_s, iss_l, b_ok, b_st, b_ex, o_ok, o_st, o_ex, c_ok, c_st, c_ex, fin_rt, fin_nx, fin_st, nx_nx, nx_rt, nx_bk, nx_ct, nx_ex, nx_st, e_seq, e_var, e_c, e_op, e_un, e_nil, e_cons, e_call, e_tup, e_lst, e_otup, e_olst, e_gd, e_asg, e_drop, e_ret, e_retN, e_next, e_brk, e_cont, e_ifs, e_setS, e_aug, e_augS, e_tru, e_bl, e_and, e_or, e_not, e_andV, e_orV, e_notV, e_if, e_chain, e_nop, e_part, e_sl, e_iSeq, e_iR1, e_iR2, rngOk_of, rngOk2_of, e_for, e_lc, e_yes, e_mt, e_mt2, e_join, e_put, e_fits, Tg.put, TgL.puts, atI_0]
    rw [e_ifT t]
    have e2 : (fAsg (.name 1) (fOp (oAdd false) (fOp (oAdd false) (fVar 1) (fLst false (fCons (fOp oFdv (fVar 3) (fC (.int 256))) (fCons (fOp oMod (fVar 3) (fC (.int 256))) (fCons (fCall oLen (fCons (fVar 2) fNil)) fNil))))) (fCall (oList false) (fCons (fVar 2) fNil)))) [some (.tup [.str "inner", kk]), some (blP acc), some (ip k), some (.int v), o4] m = .nx [some (.tup [.str "inner", kk]), some (blP (acc ++ chiB (k, v))), some (ip k), some (.int v), o4] m := by
      have l1 : oLen [ip k] m = .ok (.int (k.length : Int)) m := by simp [mkL_f, mkL_t, wipeP, mulOk, lw_l, lw_c, lv_l, lv_c, lv_x, sv_l, sv_c, sv_x, sv_t, lw_i, lw_s, lw_t, lv_s, lv_t, lv_i, lv_n, add_ii, add_ss, add_tt, add_ll, add_lc, add_cl, add_cc, sub_ii, plus_ii, mul_ii, mul_li, fdv_ii, mod_ii, pow_ii, neg_i, sh_i, sh_s, sh_t, sh_l, sh_n, sh_b, sh_c, eq_nn, ne_nn, eq_ni, ne_ni, eq_in, ne_in, eq_nb, ne_nb, eq_bn, ne_bn, eq_ns, ne_ns, eq_sn, ne_sn, eq_ii, ne_ii, eq_bb, ne_bb, eq_ss, ne_ss, eq_is, ne_is, eq_si, ne_si, eq_bs, ne_bs, eq_sb, ne_sb, isn_n, non_n, isn_i, non_i, isn_b, non_b, isn_s, non_s, isn_t, non_t, isn_l, non_l, isn_c, non_c, isn_x, non_x, tru_n, tru_b, tru_i, tru_t, tru_l, notv_b, ix_t, ix_s, ix_l, ix_x, ix_c, ixl_c, sl_t, sl_s, sl_l, sl_c, rev_l, rev_c, len_t, len_l, len_x, len_s, len_c, list_t, list_l, list_x, list_c, tuple_t, tuple_l, tuple_c, int_i, int_b, abs_i, ord_s, isi_n, isi_b, isi_i, isi_s, isi_t, isi_l, isi_c, kindc, max_ii, min_ii, app_c, ext_c, set_c, sidx_ss, cm_ii, cm_ile, cm_igt, cm_ige, isl_l, isl_c, isl_s, iss_s, iss_l, b_ok, b_st, b_ex, o_ok, o_st, o_ex, c_ok, c_st, c_ex, fin_rt, fin_nx, fin_st, nx_nx, nx_rt, nx_bk, nx_ct, nx_ex, nx_st, e_seq, e_var, e_c, e_op, e_un, e_nil, e_cons, e_call, e_tup, e_lst, e_otup, e_olst, e_gd, e_asg, e_drop, e_ret, e_retN, e_next, e_brk, e_cont, e_ifs, e_setS, e_aug, e_augS, e_tru, e_bl, e_and, e_or, e_not, e_andV, e_orV, e_notV, e_if, e_chain, e_nop, e_part, e_sl, e_iSeq, e_iR1, e_iR2, rngOk_of, rngOk2_of, e_for, e_lc, e_yes, e_mt, e_mt2, e_join, e_put, e_fits, Tg.put, TgL.puts, ip]
      have k1 : oList false [ip k] m = .ok (.lst (k.map .int)) m := by simp [mkL_f, mkL_t, wipeP, mulOk, lw_l, lw_c, lv_l, lv_c, lv_x, sv_l, sv_c, sv_x, sv_t, lw_i, lw_s, lw_t, lv_s, lv_t, lv_i, lv_n, add_ii, add_ss, add_tt, add_ll, add_lc, add_cl, add_cc, sub_ii, plus_ii, mul_ii, mul_li, fdv_ii, mod_ii, pow_ii, neg_i, sh_i, sh_s, sh_t, sh_l, sh_n, sh_b, sh_c, eq_nn, ne_nn, eq_ni, ne_ni, eq_in, ne_in, eq_nb, ne_nb, eq_bn, ne_bn, eq_ns, ne_ns, eq_sn, ne_sn, eq_ii, ne_ii, eq_bb, ne_bb, eq_ss, ne_ss, eq_is, ne_is, eq_si, ne_si, eq_bs, ne_bs, eq_sb, ne_sb, isn_n, non_n, isn_i, non_i, isn_b, non_b, isn_s, non_s, isn_t, non_t, isn_l, non_l, isn_c, non_c, isn_x, non_x, tru_n, tru_b, tru_i, tru_t, tru_l, notv_b, ix_t, ix_s, ix_l, ix_x, ix_c, ixl_c, sl_t, sl_s, sl_l, sl_c, rev_l, rev_c, len_t, len_l, len_x, len_s, len_c, list_t, list_l, list_x, list_c, tuple_t, tuple_l, tuple_c, int_i, int_b, abs_i, ord_s, isi_n, isi_b, isi_i, isi_s, isi_t, isi_l, isi_c, kindc, max_ii, min_ii, app_c, ext_c, set_c, sidx_ss, cm_ii, cm_ile, cm_igt, cm_ige, isl_l, isl_c, isl_s, iss_s, iss_l, b_ok, b_st, b_ex, o_ok, o_st, o_ex, c_ok, c_st, c_ex, fin_rt, fin_nx, fin_st, nx_nx, nx_rt, nx_bk, nx_ct, nx_ex, nx_st, e_seq, e_var, e_c, e_op, e_un, e_nil, e_cons, e_call, e_tup, e_lst, e_otup, e_olst, e_gd, e_asg, e_drop, e_ret, e_retN, e_next, e_brk, e_cont, e_ifs, e_setS, e_aug, e_augS, e_tru, e_bl, e_and, e_or, e_not, e_andV, e_orV, e_notV, e_if, e_chain, e_nop, e_part, e_sl, e_iSeq, e_iR1, e_iR2, rngOk_of, rngOk2_of, e_for, e_lc, e_yes, e_mt, e_mt2, e_join, e_put, e_fits, Tg.put, TgL.puts, ip]
      have f1 : ∀ a b c : P, oLst false [a, b, c] m = .ok (.lst [a, b, c]) m := fun a b c => by rw [e_olst, if_pos (fits_of (by show 3 ≤ 100000; decide)), mkL_f]
      have d1 : oFdv (.int v) (.int 256) m = .ok (.int (v / 256)) m := by rw [fdv_ii, if_pos (by decide)]
      have d2 : oMod (.int v) (.int 256) m = .ok (.int (v % 256)) m := by rw [mod_ii, if_pos (by decide)]
      rw [e_asg]
      simp only [e_op, e_lst, e_call, e_cons, e_var, e_c, List.getElem?_cons_succ, List.getElem?_cons_zero, b_ok, e_nil, l1, f1, d1, d2, blP]
      rw [addL (by simp; omega)]
      simp only [b_ok, k1]
      rw [addL (by simp; omega), o_ok]
      simp [chiB, lenI]
      rfl
    rw [e2]
    rw [flatB, ← List.append_assoc]
    exact hp
/-- the end: too long, or filled with zeros; the bytes are a tree -/
theorem pad_tree {d : List Int} {m : M} {a c e f : Option P} (h : d.length ≤ 99000) : (finish true m ((fSeq (fIfS (fBl (fOp (oCm .gt) (fCall oLen (fCons (fVar 1) fNil)) (fC (.int 256)))) (fRet (fC .non)) fNext)
  (fRet (fOp (oAdd false) (fVar 1) (fOp (oMul false) (fLst false (fCons (fC (.int 0)) fNil)) (fOp oSub (fC (.int 256)) (fCall oLen (fCons (fVar 1) fNil))))))) [a, some (blP d), c, e, f] m)).calm = .ok (optP blP (padB d)) m := by
  have l1 : oLen [blP d] m = .ok (.int (d.length : Int)) m := by
    have : d.length ≤ 100000 := by omega
    simp [mkL_f, mkL_t, wipeP, mulOk, lw_l, lw_c, lv_l, lv_c, lv_x, sv_l, sv_c, sv_x, sv_t, lw_i, lw_s, lw_t, lv_s, lv_t, lv_i, lv_n, add_ii, add_ss, add_tt, add_ll, add_lc, add_cl, add_cc, sub_ii, plus_ii, mul_ii, mul_li, fdv_ii, mod_ii, pow_ii, neg_i, sh_i, sh_s, sh_t, sh_l, sh_n, sh_b, sh_c, eq_nn, ne_nn, eq_ni, ne_ni, eq_in, ne_in, eq_nb, ne_nb, eq_bn, ne_bn, eq_ns, ne_ns, eq_sn, ne_sn, eq_ii, ne_ii, eq_bb, ne_bb, eq_ss, ne_ss, eq_is, ne_is, eq_si, ne_si, eq_bs, ne_bs, eq_sb, ne_sb, isn_n, non_n, isn_i, non_i, isn_b, non_b, isn_s, non_s, isn_t, non_t, isn_l, non_l, isn_c, non_c, isn_x, non_x, tru_n, tru_b, tru_i, tru_t, tru_l, notv_b, ix_t, ix_s, ix_l, ix_x, ix_c, ixl_c, sl_t, sl_s, sl_l, sl_c, rev_l, rev_c, len_t, len_l, len_x, len_s, len_c, list_t, list_l, list_x, list_c, tuple_t, tuple_l, tuple_c, int_i, int_b, abs_i, ord_s, isi_n, isi_b, isi_i, isi_s, isi_t, isi_l, isi_c, kindc, max_ii, min_ii, app_c, ext_c, set_c, sidx_ss, cm_ii, cm_ile, cm_igt, cm_ige, isl_l, isl_c, isl_s, iss_s, iss_l, b_ok, b_st, b_ex, o_ok, o_st, o_ex, c_ok, c_st, c_ex, fin_rt, fin_nx, fin_st, nx_nx, nx_rt, nx_bk, nx_ct, nx_ex, nx_st, e_seq, e_var, e_c, e_op, e_un, e_nil, e_cons, e_call, e_tup, e_lst, e_otup, e_olst, e_gd, e_asg, e_drop, e_ret, e_retN, e_next, e_brk, e_cont, e_ifs, e_setS, e_aug, e_augS, e_tru, e_bl, e_and, e_or, e_not, e_andV, e_orV, e_notV, e_if, e_chain, e_nop, e_part, e_sl, e_iSeq, e_iR1, e_iR2, rngOk_of, rngOk2_of, e_for, e_lc, e_yes, e_mt, e_mt2, e_join, e_put, e_fits, Tg.put, TgL.puts, blP, this]
  have t : (fBl (fOp (oCm .gt) (fCall oLen (fCons (fVar 1) fNil)) (fC (.int 256)))) [a, some (blP d), c, e, f] m = .ok (decide (256 < d.length)) m := by
    have q : ((256 : Int) < (d.length : Int)) ↔ 256 < d.length := by omega
    simp only [e_bl, e_op, e_call, e_cons, e_var, List.getElem?_cons_succ, List.getElem?_cons_zero, b_ok, e_nil, l1, e_c, cm_igt, q]
  rw [e_seq, e_ifB t]
  unfold padB
  by_cases hc : 256 < d.length
  · rw [decide_eq_true hc, if_pos rfl, if_neg (by omega), e_ret, e_c, o_ok, nx_rt, fin_rt, cut_tree0 un_non]; rfl
  · rw [decide_eq_false hc, if_neg Bool.false_ne_true, if_pos (by omega), e_next, nx_nx, e_ret]
    have q : (256 : Int) - (d.length : Int) = ((256 - d.length : Nat) : Int) := by omega
    have gg : decide (0 ≤ ((256 - d.length : Nat) : Int) ∧ ((256 - d.length : Nat) : Int) ≤ 100000) = true := decide_eq_true (by omega)
    have e2 : (fOp (oMul false) (fLst false (fCons (fC (.int 0)) fNil)) (fOp oSub (fC (.int 256)) (fCall oLen (fCons (fVar 1) fNil)))) [a, some (blP d), c, e, f] m = .ok (.lst (List.replicate (256 - d.length) (.int 0))) m := by
      simp only [e_op, e_lst, e_cons, e_c, e_nil, b_ok, e_olst, List.length_cons, List.length_nil, fits_le (show 0 + 1 ≤ 100000 by decide), if_true, mkL_f, e_call, e_var, List.getElem?_cons_succ, List.getElem?_cons_zero, l1, sub_ii, q, mul_li, gg, Int.toNat_natCast]
    rw [e_op]
    simp only [e_var, List.getElem?_cons_succ, List.getElem?_cons_zero, b_ok, e2]
    rw [blP, addL (by rw [List.length_replicate, List.length_map]; omega), o_ok, fin_rt, cut_tree0 (by rw [un_lst, uns_app, uns_ints, uns_all (fun x hx => by rw [List.eq_of_mem_replicate hx]; exact un_int)]; rfl), c_ok]
    simp [optP, blP]
theorem page_bytes_k (p : Pg) (hs : p.Small) (m : M) : f_page_bytes [pgP p] m = .ok (optP blP (wr p)) m := by
  unfold f_page_bytes fnC fnF fb_page_bytes
  simp only [startP, List.map_cons, List.map_nil, List.length_cons, List.length_nil]
  rw [show (List.replicate (5 - (0 + 1)) (none : Option P)) = [none, none, none, none] from rfl]
  simp only [List.cons_append, List.nil_append]
  cases p with
  | leaf es =>
    obtain ⟨hl, fl, he⟩ := hs
    have nq : ¬ (("leaf" : Str) = ("inner" : Str)) := by decide +kernel
    have e1 : (fAsg (.name 1) (fLst false (fCons (fCall oInt (fCons (fOp oEq (fOp oIx (fVar 0) (fC (.int 0))) (fC (.str ("inner" : Str)))) fNil)) (fCons (fCall oLen (fCons (fOp oIx (fVar 0) (fC (.int 1))) fNil)) fNil)))) [some (pgP (.leaf es)), none, none, none, none] m = .nx [some (pgP (.leaf es)), some (blP [0, lenI es]), none, none, none] m := by
      simp [mkL_f, mkL_t, wipeP, mulOk, lw_l, lw_c, lv_l, lv_c, lv_x, sv_l, sv_c, sv_x, sv_t, lw_i, lw_s, lw_t, lv_s, lv_t, lv_i, lv_n, add_ii, add_ss, add_tt, add_ll, add_lc, add_cl, add_cc, sub_ii, plus_ii, mul_ii, mul_li, fdv_ii, mod_ii, pow_ii, neg_i, sh_i, sh_s, sh_t, sh_l, sh_n, sh_b, sh_c, eq_nn, ne_nn, eq_ni, ne_ni, eq_in, ne_in, eq_nb, ne_nb, eq_bn, ne_bn, eq_ns, ne_ns, eq_sn, ne_sn, eq_ii, ne_ii, eq_bb, ne_bb, eq_ss, ne_ss, eq_is, ne_is, eq_si, ne_si, eq_bs, ne_bs, eq_sb, ne_sb, isn_n, non_n, isn_i, non_i, isn_b, non_b, isn_s, non_s, isn_t, non_t, isn_l, non_l, isn_c, non_c, isn_x, non_x, tru_n, tru_b, tru_i, tru_t, tru_l, notv_b, ix_t, ix_s, ix_l, ix_x, ix_c, ixl_c, sl_t, sl_s, sl_l, sl_c, rev_l, rev_c, len_t, len_l, len_x, len_s, len_c, list_t, list_l, list_x, list_c, tuple_t, tuple_l, tuple_c, int_i, int_b, abs_i, ord_s, isi_n, isi_b, isi_i, isi_s, isi_t, isi_l, isi_c, kindc, max_ii, min_ii, app_c, ext_c, set_c, sidx_ss, cm_ii, cm_ile, cm_igt, cm_ige, isl_l, isl_c, isl_s, iss_s, iss_l, b_ok, b_st, b_ex, o_ok, o_st, o_ex, c_ok, c_st, c_ex, fin_rt, fin_nx, fin_st, nx_nx, nx_rt, nx_bk, nx_ct, nx_ex, nx_st, e_seq, e_var, e_c, e_op, e_un, e_nil, e_cons, e_call, e_tup, e_lst, e_otup, e_olst, e_gd, e_asg, e_drop, e_ret, e_retN, e_next, e_brk, e_cont, e_ifs, e_setS, e_aug, e_augS, e_tru, e_bl, e_and, e_or, e_not, e_andV, e_orV, e_notV, e_if, e_chain, e_nop, e_part, e_sl, e_iSeq, e_iR1, e_iR2, rngOk_of, rngOk2_of, e_for, e_lc, e_yes, e_mt, e_mt2, e_join, e_put, e_fits, Tg.put, TgL.puts, pgP, nq, atI_0, atI_1, blP, lenI]
    obtain ⟨p2, p3, p4, hp⟩ := pb_leaf (m := m) (kk := .tup (es.map entP)) (a := some (pgP (.leaf es))) rfl es [0, lenI es] none none none he (by simp; omega)
    have it : (iSeq (fOp oIx (fVar 0) (fC (.int 1)))) [some (pgP (.leaf es)), some (blP [0, lenI es]), none, none, none] m = .ok ⟨es.map entP, []⟩ m := by
      simp [mkL_f, mkL_t, wipeP, mulOk, lw_l, lw_c, lv_l, lv_c, lv_x, sv_l, sv_c, sv_x, sv_t, lw_i, lw_s, lw_t, lv_s, lv_t, lv_i, lv_n, add_ii, add_ss, add_tt, add_ll, add_lc, add_cl, add_cc, sub_ii, plus_ii, mul_ii, mul_li, fdv_ii, mod_ii, pow_ii, neg_i, sh_i, sh_s, sh_t, sh_l, sh_n, sh_b, sh_c, eq_nn, ne_nn, eq_ni, ne_ni, eq_in, ne_in, eq_nb, ne_nb, eq_bn, ne_bn, eq_ns, ne_ns, eq_sn, ne_sn, eq_ii, ne_ii, eq_bb, ne_bb, eq_ss, ne_ss, eq_is, ne_is, eq_si, ne_si, eq_bs, ne_bs, eq_sb, ne_sb, isn_n, non_n, isn_i, non_i, isn_b, non_b, isn_s, non_s, isn_t, non_t, isn_l, non_l, isn_c, non_c, isn_x, non_x, tru_n, tru_b, tru_i, tru_t, tru_l, notv_b, ix_t, ix_s, ix_l, ix_x, ix_c, ixl_c, sl_t, sl_s, sl_l, sl_c, rev_l, rev_c, len_t, len_l, len_x, len_s, len_c, list_t, list_l, list_x, list_c, tuple_t, tuple_l, tuple_c, int_i, int_b, abs_i, ord_s, isi_n, isi_b, isi_i, isi_s, isi_t, isi_l, isi_c, kindc, max_ii, min_ii, app_c, ext_c, set_c, sidx_ss, cm_ii, cm_ile, cm_igt, cm_ige, isl_l, isl_c, isl_s, iss_s, iss_l, b_ok, b_st, b_ex, o_ok, o_st, o_ex, c_ok, c_st, c_ex, fin_rt, fin_nx, fin_st, nx_nx, nx_rt, nx_bk, nx_ct, nx_ex, nx_st, e_seq, e_var, e_c, e_op, e_un, e_nil, e_cons, e_call, e_tup, e_lst, e_otup, e_olst, e_gd, e_asg, e_drop, e_ret, e_retN, e_next, e_brk, e_cont, e_ifs, e_setS, e_aug, e_augS, e_tru, e_bl, e_and, e_or, e_not, e_andV, e_orV, e_notV, e_if, e_chain, e_nop, e_part, e_sl, e_iSeq, e_iR1, e_iR2, rngOk_of, rngOk2_of, e_for, e_lc, e_yes, e_mt, e_mt2, e_join, e_put, e_fits, Tg.put, TgL.puts, pgP, atI_1]
    rw [e_seq, e1, nx_nx, e_seq, e_for, it, o_ok, hp, nx_nx, pad_tree (by simp; omega)]
    rfl
  | inner es =>
    obtain ⟨hl, fl, he⟩ := hs
    have e1 : (fAsg (.name 1) (fLst false (fCons (fCall oInt (fCons (fOp oEq (fOp oIx (fVar 0) (fC (.int 0))) (fC (.str ("inner" : Str)))) fNil)) (fCons (fCall oLen (fCons (fOp oIx (fVar 0) (fC (.int 1))) fNil)) fNil)))) [some (pgP (.inner es)), none, none, none, none] m = .nx [some (pgP (.inner es)), some (blP [1, lenI es]), none, none, none] m := by
      simp [mkL_f, mkL_t, wipeP, mulOk, lw_l, lw_c, lv_l, lv_c, lv_x, sv_l, sv_c, sv_x, sv_t, lw_i, lw_s, lw_t, lv_s, lv_t, lv_i, lv_n, add_ii, add_ss, add_tt, add_ll, add_lc, add_cl, add_cc, sub_ii, plus_ii, mul_ii, mul_li, fdv_ii, mod_ii, pow_ii, neg_i, sh_i, sh_s, sh_t, sh_l, sh_n, sh_b, sh_c, eq_nn, ne_nn, eq_ni, ne_ni, eq_in, ne_in, eq_nb, ne_nb, eq_bn, ne_bn, eq_ns, ne_ns, eq_sn, ne_sn, eq_ii, ne_ii, eq_bb, ne_bb, eq_ss, ne_ss, eq_is, ne_is, eq_si, ne_si, eq_bs, ne_bs, eq_sb, ne_sb, isn_n, non_n, isn_i, non_i, isn_b, non_b, isn_s, non_s, isn_t, non_t, isn_l, non_l, isn_c, non_c, isn_x, non_x, tru_n, tru_b, tru_i, tru_t, tru_l, notv_b, ix_t, ix_s, ix_l, ix_x, ix_c, ixl_c, sl_t, sl_s, sl_l, sl_c, rev_l, rev_c, len_t, len_l, len_x, len_s, len_c, list_t, list_l, list_x, list_c, tuple_t, tuple_l, tuple_c, int_i, int_b, abs_i, ord_s, isi_n, isi_b, isi_i, isi_s, isi_t, isi_l, isi_c, kindc, max_ii, min_ii, app_c, ext_c, set_c, sidx_ss, cm_ii, cm_ile, cm_igt, cm_ige, isl_l, isl_c, isl_s, iss_s, iss_l, b_ok, b_st, b_ex, o_ok, o_st, o_ex, c_ok, c_st, c_ex, fin_rt, fin_nx, fin_st, nx_nx, nx_rt, nx_bk, nx_ct, nx_ex, nx_st, e_seq, e_var, e_c, e_op, e_un, e_nil, e_cons, e_call, e_tup, e_lst, e_otup, e_olst, e_gd, e_asg, e_drop, e_ret, e_retN, e_next, e_brk, e_cont, e_ifs, e_setS, e_aug, e_augS, e_tru, e_bl, e_and, e_or, e_not, e_andV, e_orV, e_notV, e_if, e_chain, e_nop, e_part, e_sl, e_iSeq, e_iR1, e_iR2, rngOk_of, rngOk2_of, e_for, e_lc, e_yes, e_mt, e_mt2, e_join, e_put, e_fits, Tg.put, TgL.puts, pgP, atI_0, atI_1, blP, lenI]
    obtain ⟨p2, p3, p4, hp⟩ := pb_inner (m := m) (kk := .tup (es.map chiP)) (a := some (pgP (.inner es))) rfl es [1, lenI es] none none none he (by simp; omega)
    have it : (iSeq (fOp oIx (fVar 0) (fC (.int 1)))) [some (pgP (.inner es)), some (blP [1, lenI es]), none, none, none] m = .ok ⟨es.map chiP, []⟩ m := by
      simp [mkL_f, mkL_t, wipeP, mulOk, lw_l, lw_c, lv_l, lv_c, lv_x, sv_l, sv_c, sv_x, sv_t, lw_i, lw_s, lw_t, lv_s, lv_t, lv_i, lv_n, add_ii, add_ss, add_tt, add_ll, add_lc, add_cl, add_cc, sub_ii, plus_ii, mul_ii, mul_li, fdv_ii, mod_ii, pow_ii, neg_i, sh_i, sh_s, sh_t, sh_l, sh_n, sh_b, sh_c, eq_nn, ne_nn, eq_ni, ne_ni, eq_in, ne_in, eq_nb, ne_nb, eq_bn, ne_bn, eq_ns, ne_ns, eq_sn, ne_sn, eq_ii, ne_ii, eq_bb, ne_bb, eq_ss, ne_ss, eq_is, ne_is, eq_si, ne_si, eq_bs, ne_bs, eq_sb, ne_sb, isn_n, non_n, isn_i, non_i, isn_b, non_b, isn_s, non_s, isn_t, non_t, isn_l, non_l, isn_c, non_c, isn_x, non_x, tru_n, tru_b, tru_i, tru_t, tru_l, notv_b, ix_t, ix_s, ix_l, ix_x, ix_c, ixl_c, sl_t, sl_s, sl_l, sl_c, rev_l, rev_c, len_t, len_l, len_x, len_s, len_c, list_t, list_l, list_x, list_c, tuple_t, tuple_l, tuple_c, int_i, int_b, abs_i, ord_s, isi_n, isi_b, isi_i, isi_s, isi_t, isi_l, isi_c, kindc, max_ii, min_ii, app_c, ext_c, set_c, sidx_ss, cm_ii, cm_ile, cm_igt, cm_ige, isl_l, isl_c, isl_s, iss_s, iss_l, b_ok, b_st, b_ex, o_ok, o_st, o_ex, c_ok, c_st, c_ex, fin_rt, fin_nx, fin_st, nx_nx, nx_rt, nx_bk, nx_ct, nx_ex, nx_st, e_seq, e_var, e_c, e_op, e_un, e_nil, e_cons, e_call, e_tup, e_lst, e_otup, e_olst, e_gd, e_asg, e_drop, e_ret, e_retN, e_next, e_brk, e_cont, e_ifs, e_setS, e_aug, e_augS, e_tru, e_bl, e_and, e_or, e_not, e_andV, e_orV, e_notV, e_if, e_chain, e_nop, e_part, e_sl, e_iSeq, e_iR1, e_iR2, rngOk_of, rngOk2_of, e_for, e_lc, e_yes, e_mt, e_mt2, e_join, e_put, e_fits, Tg.put, TgL.puts, pgP, atI_1]
    rw [e_seq, e1, nx_nx, e_seq, e_for, it, o_ok, hp, nx_nx, pad_tree (by simp; omega)]
    rfl

end
/-! PP -/
section
open PySem PySem.Spec PyProof.Rows
/-! PP: what is written is read back -/
theorem rByte_at {bs r : List Int} {a : Nat} {x : Int} (h : bs.drop a = x :: r) : rByte bs a = some (x, a + 1) ∧ bs.drop (a + 1) = r := by
  have h1 : bs[a]? = some x := by
    have := congrArg (fun l : List Int => l[0]?) h
    simpa using this
  refine ⟨by rw [rByte, h1], ?_⟩
  have := congrArg (List.drop 1) h
  simpa using this
theorem rBytes_at {bs l r : List Int} {a : Nat} (h : bs.drop a = l ++ r) (ha : a ≤ bs.length) : rBytes bs a l.length = some (l, a + l.length) ∧ bs.drop (a + l.length) = r ∧ a + l.length ≤ bs.length := by
  have hl := congrArg List.length h
  rw [List.length_drop, List.length_append] at hl
  have h3 : a + l.length ≤ bs.length := by omega
  refine ⟨by rw [rBytes, if_pos h3, h, List.take_left], ?_, h3⟩
  have := congrArg (List.drop l.length) h
  rwa [List.drop_drop, List.drop_left] at this
theorem rKey_at {bs k r : List Int} {a : Nat} (h : bs.drop a = lenI k :: k ++ r) (ha : a ≤ bs.length) : rKey bs a = some (k, a + 1 + k.length) ∧ bs.drop (a + 1 + k.length) = r ∧ a + 1 + k.length ≤ bs.length := by
  obtain ⟨h1, h2⟩ := rByte_at (r := k ++ r) h
  have hl := congrArg List.length h
  rw [List.length_drop] at hl
  simp only [List.length_append, List.length_cons] at hl
  obtain ⟨h3, h4, h5⟩ := rBytes_at h2 (by omega)
  refine ⟨?_, h4, h5⟩
  rw [rKey, h1]
  simp only [lenI, Int.toNat_natCast]
  exact h3
theorem rEnt_at {bs r : List Int} {a : Nat} {e : List Int × List Kv} (hd : decode (keyB e.2) = some e.2) (h : bs.drop a = entB e ++ r) (ha : a ≤ bs.length) : rEnt bs a = some (e, a + (entB e).length) ∧ bs.drop (a + (entB e).length) = r ∧ a + (entB e).length ≤ bs.length := by
  obtain ⟨k, vs⟩ := e
  simp only at hd
  have hb : bs.drop a = lenI k :: k ++ ((lenI (keyB vs) :: keyB vs) ++ r) := by rw [h, entB]; simp
  obtain ⟨h1, h2, h3⟩ := rKey_at hb ha
  obtain ⟨h4, h5, h6⟩ := rKey_at h2 h3
  have hq : a + (entB (k, vs)).length = a + 1 + k.length + 1 + (keyB vs).length := by simp [entB]; omega
  rw [hq]
  refine ⟨?_, h5, h6⟩
  rw [rEnt, h1]
  simp only [h4, hd]
theorem rChi_at {bs r : List Int} {a : Nat} {c : List Int × Int} {f : Bool} (hf : c.1 = [] ∨ f = false) (h : bs.drop a = chiB c ++ r) (ha : a ≤ bs.length) : rChi f bs a = some (c, a + (chiB c).length) ∧ bs.drop (a + (chiB c).length) = r ∧ a + (chiB c).length ≤ bs.length := by
  obtain ⟨k, n⟩ := c
  simp only at hf
  have hl := congrArg List.length h
  rw [List.length_drop] at hl
  simp only [chiB, List.length_append, List.length_cons] at hl
  have hb : bs.drop a = n / 256 :: (n % 256 :: (lenI k :: k ++ r)) := by rw [h, chiB]; simp
  obtain ⟨h1, h2⟩ := rByte_at hb
  obtain ⟨h3, h4⟩ := rByte_at h2
  obtain ⟨h5, h6, h7⟩ := rKey_at h4 (by omega)
  have hq : a + (chiB (k, n)).length = a + 1 + 1 + 1 + k.length := by simp [chiB]; omega
  rw [hq]
  refine ⟨?_, h6, h7⟩
  rw [rChi, h1]
  simp only [h3, h5, if_pos hf]
  have : 256 * (n / 256) + n % 256 = n := by omega
  rw [this]
theorem rMany_at {α : Type} {bs : List Int} {f : α → List Int} {rd : Nat → Nat → Option (α × Nat)} : ∀ (xs : List α) (s a : Nat) (r : List Int), (∀ (i : Nat) (x : α) (a : Nat) (r : List Int), xs[i]? = some x → bs.drop a = f x ++ r → a ≤ bs.length → rd (s + i) a = some (x, a + (f x).length) ∧ bs.drop (a + (f x).length) = r ∧ a + (f x).length ≤ bs.length) →
    bs.drop a = flatB f xs ++ r → a ≤ bs.length → rMany rd s xs.length a = some (xs, a + (flatB f xs).length) ∧ bs.drop (a + (flatB f xs).length) = r
  | [], s, a, r, _, h, _ => ⟨rfl, h⟩
  | x :: xs, s, a, r, hx, h, ha => by
    rw [flatB, List.append_assoc] at h
    obtain ⟨h1, h2, h3⟩ := hx 0 x a _ rfl h ha
    obtain ⟨h4, h5⟩ := rMany_at xs (s + 1) _ r (fun i y b q hy => by
      have := hx (i + 1) y b q (by simpa using hy)
      rwa [show s + (i + 1) = s + 1 + i by omega] at this) h2 h3
    have hq : a + (flatB f (x :: xs)).length = a + (f x).length + (flatB f xs).length := by rw [flatB, List.length_append]; omega
    rw [hq]
    refine ⟨?_, h5⟩
    rw [List.length_cons, rMany, show rd s a = _ from h1]
    simp only [h4]

end
/-! PQ -/
section
open PySem PySem.Spec PyProof.Rows
/-! PQ: parse of a written page -/
def Pg.Law : Pg → Prop
  | .leaf es => ∀ e ∈ es, decode (keyB e.2) = some e.2
  | .inner cs => ∀ (i : Nat) c, cs[i]? = some c → c.1 = [] ∨ decide (i = 0) = false
theorem padB_some {l bs : List Int} (h : padB l = some bs) : l.length ≤ 256 ∧ bs = l ++ List.replicate (256 - l.length) 0 ∧ bs.length = 256 := by
  unfold padB at h
  split at h
  · rename_i hl
    cases h
    exact ⟨hl, rfl, by rw [List.length_append, List.length_replicate]; omega⟩
  · cases h
theorem parse_wr {p : Pg} {bs : List Int} (hp : p.Law) (h : wr p = some bs) : parse bs = some p := by
  obtain ⟨h1, h2, h3⟩ := padB_some h
  unfold parse
  rw [if_pos h3]
  cases p with
  | leaf es =>
    have d0 : bs.drop 0 = 0 :: (lenI es :: (flatB entB es ++ List.replicate (256 - (pageB (.leaf es)).length) 0)) := by rw [h2, pageB]; simp
    obtain ⟨a1, a2⟩ := rByte_at d0
    obtain ⟨b1, b2⟩ := rByte_at a2
    rw [a1]
    dsimp only
    rw [if_pos (by decide), b1]
    dsimp only
    rw [if_pos rfl]
    obtain ⟨c1, c2⟩ := rMany_at (bs := bs) (f := entB) (rd := fun _ => rEnt bs) es 0 (0 + 1 + 1) _ (fun i x a r hx hd ha => rEnt_at (hp x (List.mem_of_getElem? hx)) hd ha) b2 (by omega)
    have hc : (lenI es).toNat = es.length := by simp [lenI]
    rw [hc, c1]
    dsimp only
    have hq : 0 + 1 + 1 + (flatB entB es).length = (pageB (.leaf es)).length := by simp [pageB]; omega
    rw [if_pos (by unfold endOk; rw [c2, h3, hq]; exact decide_eq_true rfl)]
  | inner cs =>
    have d0 : bs.drop 0 = 1 :: (lenI cs :: (flatB chiB cs ++ List.replicate (256 - (pageB (.inner cs)).length) 0)) := by rw [h2, pageB]; simp
    obtain ⟨a1, a2⟩ := rByte_at d0
    obtain ⟨b1, b2⟩ := rByte_at a2
    rw [a1]
    dsimp only
    rw [if_pos (by decide), b1]
    dsimp only
    rw [if_neg (by decide)]
    obtain ⟨c1, c2⟩ := rMany_at (bs := bs) (f := chiB) (rd := fun i => rChi (decide (i = 0)) bs) cs 0 (0 + 1 + 1) _ (fun i x a r hx hd ha => rChi_at (by rw [Nat.zero_add]; exact hp i x hx) hd ha) b2 (by omega)
    have hc : (lenI cs).toNat = cs.length := by simp [lenI]
    rw [hc, c1]
    dsimp only
    have hq : 0 + 1 + 1 + (flatB chiB cs).length = (pageB (.inner cs)).length := by simp [pageB]; omega
    rw [if_pos (by unfold endOk; rw [c2, h3, hq]; exact decide_eq_true rfl)]

end
/-! PS -/
section
open PySem PySem.Spec PyProof.Rows
/-! PS: what is read is what was written -/
theorem rByte_inv {bs : List Int} {a a1 : Nat} {x : Int} (h : rByte bs a = some (x, a1)) : bs.drop a = x :: bs.drop a1 ∧ x ∈ bs := by
  refine ⟨?_, rByte_mem h⟩
  unfold rByte at h
  split at h
  · rename_i y hy
    cases h
    obtain ⟨h1, h2⟩ := List.getElem?_eq_some_iff.mp hy
    rw [List.drop_eq_getElem_cons h1, h2]
  · cases h
theorem rBytes_inv {bs l : List Int} {a k a1 : Nat} (h : rBytes bs a k = some (l, a1)) : bs.drop a = l ++ bs.drop a1 ∧ l.length = k := by
  unfold rBytes at h
  split at h
  · rename_i hl
    cases h
    refine ⟨?_, by rw [List.length_take, List.length_drop]; omega⟩
    rw [← List.drop_drop, List.take_append_drop]
  · cases h
theorem rKey_inv {bs k : List Int} {a a1 : Nat} (hp : ∀ x ∈ bs, 0 ≤ x) (h : rKey bs a = some (k, a1)) : bs.drop a = lenI k :: k ++ bs.drop a1 := by
  unfold rKey at h
  split at h
  · rename_i x b hb
    obtain ⟨h1, h2⟩ := rByte_inv hb
    obtain ⟨h3, h4⟩ := rBytes_inv h
    have : lenI k = x := by rw [lenI, h4]; exact Int.toNat_of_nonneg (hp x h2)
    rw [h1, h3, this, List.cons_append]
  · cases h
theorem rChi_inv {f : Bool} {bs : List Int} {c : List Int × Int} {a a1 : Nat} (hp : ∀ x ∈ bs, 0 ≤ x ∧ x < 256) (h : rChi f bs a = some (c, a1)) : bs.drop a = chiB c ++ bs.drop a1 ∧ (c.1 = [] ∨ f = false) := by
  unfold rChi at h
  split at h
  · rename_i x b hb
    split at h
    · rename_i y b2 hb2
      split at h
      · rename_i k b3 hb3
        split at h
        · rename_i hf
          cases h
          obtain ⟨h1, m1⟩ := rByte_inv hb
          obtain ⟨h2, m2⟩ := rByte_inv hb2
          have h3 := rKey_inv (fun x hx => (hp x hx).1) hb3
          have q1 := hp x m1
          have q2 := hp y m2
          have e1 : (256 * x + y) / 256 = x := by omega
          have e2 : (256 * x + y) % 256 = y := by omega
          exact ⟨by rw [h1, h2, h3, chiB, e1, e2]; simp, hf⟩
        · cases h
      · cases h
    · cases h
  · cases h
theorem rMany_inv {α : Type} {bs : List Int} {f : α → List Int} {rd : Nat → Nat → Option (α × Nat)} {Ok : Nat → α → Prop} (hr : ∀ i a x a1, rd i a = some (x, a1) → bs.drop a = f x ++ bs.drop a1 ∧ Ok i x) : ∀ (k s a : Nat) {xs : List α} {a1 : Nat}, rMany rd s k a = some (xs, a1) →
    bs.drop a = flatB f xs ++ bs.drop a1 ∧ xs.length = k ∧ ∀ i x, xs[i]? = some x → Ok (s + i) x
  | 0, s, a, xs, a1, h => by rw [rMany] at h; cases h; exact ⟨rfl, rfl, fun i x hx => by simp at hx⟩
  | k + 1, s, a, xs, a1, h => by
    rw [rMany] at h
    split at h
    · rename_i x b h1
      split at h
      · rename_i ys b2 h2
        cases h
        obtain ⟨e1, o1⟩ := hr _ _ _ _ h1
        obtain ⟨e2, e3, o2⟩ := rMany_inv hr k (s + 1) b h2
        refine ⟨by rw [e1, e2, flatB, List.append_assoc], by rw [List.length_cons, e3], fun i y hy => ?_⟩
        cases i with
        | zero => simp at hy; subst hy; exact o1
        | succ i => have := o2 i y (by simpa using hy); rwa [show s + 1 + i = s + (i + 1) by omega] at this
      · cases h
    · cases h

end
/-! PT -/
section
open PySem PySem.Spec PyProof.Rows
/-! PT: decode has keyB's bytes alone -/
theorem txtAt_inv : ∀ (n : Nat) (acc : List Nat) (l : List Int) {x : List Nat}, (∀ c ∈ acc, GoodC c) → txtAt n acc l = some x → ∃ y r, x = acc ++ y ∧ l = y.map (fun c : Nat => (c : Int)) ++ 0 :: r ∧ (∀ c ∈ x, GoodC c) ∧ y.length < n
  | 0, acc, l, x, _, h => by rw [txtAt] at h; cases h
  | n + 1, acc, [], x, _, h => by rw [txtAt] at h; cases h
  | n + 1, acc, c :: l, x, ha, h => by
    rw [txtAt] at h
    by_cases hc : c = 0
    · rw [if_pos hc] at h
      cases h
      exact ⟨[], l, by simp, by simp [hc], ha, by simp⟩
    · rw [if_neg hc] at h
      by_cases hg : 32 ≤ c ∧ c ≤ 126 ∧ c ≠ 37
      · rw [if_pos hg] at h
        have hgc : GoodC c.toNat := by unfold GoodC; omega
        obtain ⟨y, r, e1, e2, e3, e4⟩ := txtAt_inv n (acc ++ [c.toNat]) l (fun d hd => (List.mem_append.mp hd).elim (ha d) fun q => by rw [List.mem_singleton.mp q]; exact hgc) h
        refine ⟨c.toNat :: y, r, by rw [e1]; simp, ?_, e3, by rw [List.length_cons]; omega⟩
        rw [e2]
        simp only [List.map_cons, List.cons_append]
        rw [Int.toNat_of_nonneg (by omega)]
      · rw [if_neg hg] at h; cases h
theorem intAt_inv {l : List Int} {i : Int} (hp : ∀ x ∈ l, 0 ≤ x ∧ x < 256) (h : intAt l = some i) : l = dig5 (i + 549755813888) ++ l.drop 5 ∧ (Kv.n i).Good := by
  unfold intAt at h
  split at h
  · cases h
  · rename_i hl
    split at h
    · rename_i hb
      cases h
      match l, hl, hp, hb with
      | a :: b :: c :: d :: e :: r, _, hp, hb =>
        have ha := hp a (by simp)
        have hb' := hp b (by simp)
        have hc := hp c (by simp)
        have hd := hp d (by simp)
        have he := hp e (by simp)
        have hb2 : -1000000000 ≤ (256 * (256 * (256 * (256 * (256 * 0 + a) + b) + c) + d) + e) - 549755813888 ∧ (256 * (256 * (256 * (256 * (256 * 0 + a) + b) + c) + d) + e) - 549755813888 ≤ 1000000000 := of_decide_eq_true hb
        have fe : foldB (List.take 5 (a :: b :: c :: d :: e :: r)) = 256 * (256 * (256 * (256 * (256 * 0 + a) + b) + c) + d) + e := rfl
        rw [fe]
        refine ⟨?_, ?_⟩
        · simp only [dig5, List.drop_succ_cons, List.drop_zero, List.cons_append, List.nil_append, List.cons.injEq, and_true]
          refine ⟨?_, ?_, ?_, ?_, ?_⟩ <;> omega
        · unfold Kv.Good; omega
      | [], hl, _, _ => exact absurd (by simp) hl
      | [_], hl, _, _ => exact absurd (by simp) hl
      | [_, _], hl, _, _ => exact absurd (by simp) hl
      | [_, _, _], hl, _, _ => exact absurd (by simp) hl
      | [_, _, _, _], hl, _, _ => exact absurd (by simp) hl
    · cases h
theorem dec_inv : ∀ (n : Nat) (l : List Int) (acc : List Kv) {vs : List Kv}, (∀ x ∈ l, 0 ≤ x ∧ x < 256) → dec n l acc = some vs → ∃ ws, vs = acc ++ ws ∧ keyB ws = l ∧ ∀ v ∈ ws, v.Good
  | 0, l, acc, vs, _, h => by rw [dec] at h; cases h
  | n + 1, [], acc, vs, _, h => by
    rw [dec] at h; cases h
    exact ⟨[], by simp, rfl, fun v hv => by simp at hv⟩
  | n + 1, c :: r, acc, vs, hp, h => by
    rw [dec] at h
    have hr : ∀ x ∈ r, 0 ≤ x ∧ x < 256 := fun x hx => hp x (List.mem_cons_of_mem _ hx)
    by_cases h1 : c = 1
    · rw [if_pos h1] at h
      split at h
      · rename_i i hi
        obtain ⟨q1, q2⟩ := intAt_inv hr hi
        obtain ⟨ws, e1, e2, e3⟩ := dec_inv n _ _ (fun x hx => hr x (List.mem_of_mem_drop hx)) h
        refine ⟨.n i :: ws, by rw [e1]; simp, ?_, fun v hv => (List.mem_cons.mp hv).elim (fun q => by rw [q]; exact q2) (e3 v)⟩
        rw [keyB, e2, kb, h1, List.cons_append, ← q1]
      · cases h
    · rw [if_neg h1] at h
      by_cases h2 : c = 2
      · rw [if_pos h2] at h
        split at h
        · rename_i x hx
          obtain ⟨y, r', e1, e2, e3, e4⟩ := txtAt_inv 7 [] r (fun d hd => by simp at hd) hx
          simp only [List.nil_append] at e1
          subst e1
          obtain ⟨ws, g1, g2, g3⟩ := dec_inv n _ _ (fun z hz => hr z (List.mem_of_mem_drop hz)) h
          refine ⟨.t x :: ws, by rw [g1]; simp, ?_, fun v hv => (List.mem_cons.mp hv).elim (fun q => by rw [q]; exact ⟨by omega, e3⟩) (g3 v)⟩
          have hd : r.drop (x.length + 1) = r' := by
            rw [e2, show x.length + 1 = (x.map (fun c : Nat => (c : Int))).length + 1 by rw [List.length_map], ← List.drop_drop, List.drop_left]; rfl
          rw [keyB, g2, hd, kb, h2, e2]
          simp
        · cases h
      · rw [if_neg h2] at h; cases h
theorem decode_inv {l : List Int} {vs : List Kv} (hp : ∀ x ∈ l, 0 ≤ x ∧ x < 256) (h : decode l = some vs) : keyB vs = l ∧ ∀ v ∈ vs, v.Good := by
  obtain ⟨ws, e1, e2, e3⟩ := dec_inv _ _ _ hp h
  rw [List.nil_append] at e1
  subst e1
  exact ⟨e2, e3⟩

end
/-! PU -/
section
open PySem PySem.Spec PyProof.Rows
/-! PU: parse of any bytes -/
theorem rEnt_inv {bs : List Int} {e : List Int × List Kv} {a a1 : Nat} (hp : ∀ x ∈ bs, 0 ≤ x ∧ x < 256) (h : rEnt bs a = some (e, a1)) : bs.drop a = entB e ++ bs.drop a1 ∧ decode (keyB e.2) = some e.2 ∧ ∀ v ∈ e.2, v.Good := by
  unfold rEnt at h
  split at h
  · rename_i k b hb
    split at h
    · rename_i w b2 hb2
      split at h
      · rename_i vs hv
        cases h
        have h1 := rKey_inv (fun x hx => (hp x hx).1) hb
        have h2 := rKey_inv (fun x hx => (hp x hx).1) hb2
        have hw : ∀ x ∈ w, 0 ≤ x ∧ x < 256 := fun x hx => hp x (List.mem_of_mem_drop (i := b) (by rw [h2]; simp [hx]))
        obtain ⟨e1, e2⟩ := decode_inv hw hv
        exact ⟨by rw [h1, h2, entB, e1]; simp, by rw [e1]; exact hv, e2⟩
      · cases h
    · cases h
  · cases h
theorem flat_mem {α : Type} {f : α → List Int} : ∀ {xs : List α} {x : α}, x ∈ xs → (f x).length ≤ (flatB f xs).length
  | y :: ys, x, h => by
    rw [flatB, List.length_append]
    rcases List.mem_cons.mp h with rfl | h
    · omega
    · have := flat_mem (f := f) h; omega
theorem kb_two (v : Kv) : 2 ≤ (kb v).length := by cases v <;> simp [kb, dig5]
theorem keyB_two : ∀ vs : List Kv, 2 * vs.length ≤ (keyB vs).length
  | [] => Nat.le_refl _
  | v :: vs => by
    have := keyB_two vs
    have := kb_two v
    rw [keyB, List.length_append, List.length_cons]; omega
theorem parse_inv {bs : List Int} {p : Pg} (hp : ∀ x ∈ bs, 0 ≤ x ∧ x < 256) (h : parse bs = some p) : wr p = some bs ∧ p.Small ∧ p.Law := by
  unfold parse at h
  split at h
  · rename_i hlen
    split at h
    · rename_i kind a1 h1
      split at h
      · rename_i hk
        split at h
        · rename_i cnt a2 h2
          obtain ⟨i1, m1⟩ := rByte_inv h1
          obtain ⟨i2, m2⟩ := rByte_inv h2
          have hc := hp cnt m2
          have hkk := hp kind m1
          have hn : (cnt.toNat : Int) = cnt := Int.toNat_of_nonneg hc.1
          have fin : ∀ (l : List Int) (a3 : Nat), bs.drop a2 = l ++ bs.drop a3 → endOk bs a3 = true → padB (kind :: cnt :: l) = some bs ∧ l.length ≤ 254 := by
            intro l a3 e1 e2
            have e2 : bs.drop a3 = List.replicate (bs.length - a3) 0 := of_decide_eq_true e2
            have d : bs.drop 0 = kind :: cnt :: l ++ bs.drop a3 := by rw [i1, i2, e1]; simp
            rw [List.drop_zero] at d
            have ln := congrArg List.length d
            rw [hlen, List.length_append, List.length_cons, List.length_cons] at ln
            have l3 : (bs.drop a3).length = 256 - (l.length + 1 + 1) := by omega
            rw [e2, List.length_replicate] at l3
            refine ⟨?_, by omega⟩
            unfold padB
            rw [if_pos (by simp only [List.length_cons]; omega)]
            refine congrArg some ?_
            rw [e2, l3] at d
            simpa using d.symm
          split at h
          · rename_i hz
            split at h
            · rename_i es a3 h3
              split at h
              · rename_i he
                cases h
                obtain ⟨q1, q2, q3⟩ := rMany_inv (f := entB) (Ok := fun _ (e : List Int × List Kv) => decode (keyB e.2) = some e.2 ∧ ∀ v ∈ e.2, v.Good) (fun i a x a1 hx => rEnt_inv hp hx) _ _ _ h3
                obtain ⟨f1, f2⟩ := fin _ _ q1 he
                have each : ∀ e ∈ es, decode (keyB e.2) = some e.2 ∧ ∀ v ∈ e.2, v.Good := fun e hm => by
                  obtain ⟨i, hi⟩ := List.getElem?_of_mem hm
                  exact q3 i e hi
                refine ⟨?_, ⟨by omega, by omega, fun e hm => ?_⟩, fun e hm => (each e hm).1⟩
                · rw [wr, pageB, ← f1, hz, lenI, q2, hn]
                · have b1 := flat_mem (f := entB) hm
                  have b2 := keyB_two e.2
                  simp only [entB, List.length_cons, List.length_append] at b1
                  exact ⟨by omega, by omega, (each e hm).2⟩
              · cases h
            · cases h
          · rename_i hz
            split at h
            · rename_i cs a3 h3
              split at h
              · rename_i he
                cases h
                obtain ⟨q1, q2, q3⟩ := rMany_inv (f := chiB) (Ok := fun i (c : List Int × Int) => c.1 = [] ∨ decide (i = 0) = false) (fun i a x a1 hx => rChi_inv hp hx) _ _ _ h3
                obtain ⟨f1, f2⟩ := fin _ _ q1 he
                have k1 : kind = 1 := by omega
                refine ⟨?_, ⟨by omega, by omega, fun e hm => ?_⟩, fun i c hi => by have := q3 i c hi; rwa [Nat.zero_add] at this⟩
                · rw [wr, pageB, ← f1, k1, lenI, q2, hn]
                · have b1 := flat_mem (f := chiB) hm
                  simp only [chiB, List.length_cons] at b1
                  omega
              · cases h
            · cases h
        · cases h
      · cases h
    · cases h
  · cases h

end
/-! PX -/
section
open PySem PySem.Spec PyProof.Rows
/-! PX: tried -/
theorem tried_none {bs : List Int} (hb : bs.length ≤ 1000) (hp : ∀ x ∈ bs, 0 ≤ x ∧ x < 256) (h : parse bs = none) (m : M) : f_tried [blP bs] m = .ok (.bl true) m := by
  have r := read_page_k hb hp m
  rw [h] at r
  have r : f_read_page [blP bs] m = .exc "DamagedData" [] m := r
  unfold f_tried fnC fnF fb_tried
  simp only [startP, List.map_cons, List.map_nil, List.length_cons, List.length_nil]
  rw [show (List.replicate (4 - (0 + 1)) (none : Option P)) = [none, none, none] from rfl]
  simp only [List.cons_append, List.nil_append]
  have g : oList false [blP bs] m = .ok (blP bs) m := by
    have : bs.length ≤ 100000 := by omega
    simp [mkL_f, mkL_t, wipeP, mulOk, lw_l, lw_c, lv_l, lv_c, lv_x, sv_l, sv_c, sv_x, sv_t, lw_i, lw_s, lw_t, lv_s, lv_t, lv_i, lv_n, add_ii, add_ss, add_tt, add_ll, add_lc, add_cl, add_cc, sub_ii, plus_ii, mul_ii, mul_li, fdv_ii, mod_ii, pow_ii, neg_i, sh_i, sh_s, sh_t, sh_l, sh_n, sh_b, sh_c, eq_nn, ne_nn, eq_ni, ne_ni, eq_in, ne_in, eq_nb, ne_nb, eq_bn, ne_bn, eq_ns, ne_ns, eq_sn, ne_sn, eq_ii, ne_ii, eq_bb, ne_bb, eq_ss, ne_ss, eq_is, ne_is, eq_si, ne_si, eq_bs, ne_bs, eq_sb, ne_sb, isn_n, non_n, isn_i, non_i, isn_b, non_b, isn_s, non_s, isn_t, non_t, isn_l, non_l, isn_c, non_c, isn_x, non_x, tru_n, tru_b, tru_i, tru_t, tru_l, notv_b, ix_t, ix_s, ix_l, ix_x, ix_c, ixl_c, sl_t, sl_s, sl_l, sl_c, rev_l, rev_c, len_t, len_l, len_x, len_s, len_c, list_t, list_l, list_x, list_c, tuple_t, tuple_l, tuple_c, int_i, int_b, abs_i, ord_s, isi_n, isi_b, isi_i, isi_s, isi_t, isi_l, isi_c, kindc, max_ii, min_ii, app_c, ext_c, set_c, sidx_ss, cm_ii, cm_ile, cm_igt, cm_ige, isl_l, isl_c, isl_s, iss_s, iss_l, b_ok, b_st, b_ex, o_ok, o_st, o_ex, c_ok, c_st, c_ex, fin_rt, fin_nx, fin_st, nx_nx, nx_rt, nx_bk, nx_ct, nx_ex, nx_st, e_seq, e_var, e_c, e_op, e_un, e_nil, e_cons, e_call, e_tup, e_lst, e_otup, e_olst, e_gd, e_asg, e_drop, e_ret, e_retN, e_next, e_brk, e_cont, e_ifs, e_setS, e_aug, e_augS, e_tru, e_bl, e_and, e_or, e_not, e_andV, e_orV, e_notV, e_if, e_chain, e_nop, e_part, e_sl, e_iSeq, e_iR1, e_iR2, rngOk_of, rngOk2_of, e_for, e_lc, e_yes, e_mt, e_mt2, e_join, e_put, e_fits, Tg.put, TgL.puts, blP, this]
  rw [e_seq, e_asg]
  simp only [e_call, e_cons, e_var, List.getElem?_cons_zero, b_ok, e_nil, g, o_ok, Tg.put, List.set_cons_succ, List.set_cons_zero]
  rw [nx_nx, e_seq]
  have b : (fAsg (.name 2) (fCall (gd 1 f_read_page) (fCons (fVar 1) fNil))) [some (blP bs), some (blP bs), none, none] m = .exc "DamagedData" [] [some (blP bs), some (blP bs), none, none] m := by
    have g1 : gd 1 f_read_page [blP bs] m = .exc "DamagedData" [] m := by rw [e_gd, if_pos (show [blP bs].length = 1 from rfl), r]
    rw [e_asg]
    simp only [e_call, e_cons, e_var, List.getElem?_cons_succ, List.getElem?_cons_zero, b_ok, e_nil, g1, o_ex]
  have c1 : ct_AnswerError "DamagedData" = some true := by simp [ct_AnswerError]
  have c2 : is_DamagedData "DamagedData" = some true := by simp [is_DamagedData]
  have c3 : is_ValueError "DamagedData" = some true := by simp [is_ValueError]
  rw [e_try, b]
  dsimp only
  rw [c1]
  dsimp only
  rw [if_pos (show 3 < [some (blP bs), some (blP bs), none, none].length from by show 3 < 4; decide)]
  have hh : (fRet (fAndV (fIsE (is_DamagedData "DamagedData") []) (fIsE (is_ValueError "DamagedData") []))) ([some (blP bs), some (blP bs), none, none].set 3 none) m = .rt (.bl true) m := by
    rw [c2, c3, e_ret, e_andV, e_isE, b_ok, tru_b]
    dsimp only
    rw [e_isE, o_ok]
  rw [hh]
  dsimp only
  rw [nx_rt, fin_rt, cut_tree0 un_bl, c_ok]

end
/-! PY -/
section
open PySem PySem.Spec PyProof.Rows
/-! PY: tried, written bytes -/
theorem tried_some {bs : List Int} {p : Pg} (hb : bs.length ≤ 1000) (hp : ∀ x ∈ bs, 0 ≤ x ∧ x < 256) (h : parse bs = some p) (m : M) : f_tried [blP bs] m = .ok (.bl true) m := by
  have r := read_page_k hb hp m
  rw [h] at r
  have r : f_read_page [blP bs] m = .ok (pgP p) m := r
  obtain ⟨w1, w2, w3⟩ := parse_inv hp h
  have pb := page_bytes_k p w2 m
  rw [w1] at pb
  have pb : f_page_bytes [pgP p] m = .ok (blP bs) m := pb
  unfold f_tried fnC fnF fb_tried
  simp only [startP, List.map_cons, List.map_nil, List.length_cons, List.length_nil]
  rw [show (List.replicate (4 - (0 + 1)) (none : Option P)) = [none, none, none] from rfl]
  simp only [List.cons_append, List.nil_append]
  have g : oList false [blP bs] m = .ok (blP bs) m := by
    have : bs.length ≤ 100000 := by omega
    simp [mkL_f, mkL_t, wipeP, mulOk, lw_l, lw_c, lv_l, lv_c, lv_x, sv_l, sv_c, sv_x, sv_t, lw_i, lw_s, lw_t, lv_s, lv_t, lv_i, lv_n, add_ii, add_ss, add_tt, add_ll, add_lc, add_cl, add_cc, sub_ii, plus_ii, mul_ii, mul_li, fdv_ii, mod_ii, pow_ii, neg_i, sh_i, sh_s, sh_t, sh_l, sh_n, sh_b, sh_c, eq_nn, ne_nn, eq_ni, ne_ni, eq_in, ne_in, eq_nb, ne_nb, eq_bn, ne_bn, eq_ns, ne_ns, eq_sn, ne_sn, eq_ii, ne_ii, eq_bb, ne_bb, eq_ss, ne_ss, eq_is, ne_is, eq_si, ne_si, eq_bs, ne_bs, eq_sb, ne_sb, isn_n, non_n, isn_i, non_i, isn_b, non_b, isn_s, non_s, isn_t, non_t, isn_l, non_l, isn_c, non_c, isn_x, non_x, tru_n, tru_b, tru_i, tru_t, tru_l, notv_b, ix_t, ix_s, ix_l, ix_x, ix_c, ixl_c, sl_t, sl_s, sl_l, sl_c, rev_l, rev_c, len_t, len_l, len_x, len_s, len_c, list_t, list_l, list_x, list_c, tuple_t, tuple_l, tuple_c, int_i, int_b, abs_i, ord_s, isi_n, isi_b, isi_i, isi_s, isi_t, isi_l, isi_c, kindc, max_ii, min_ii, app_c, ext_c, set_c, sidx_ss, cm_ii, cm_ile, cm_igt, cm_ige, isl_l, isl_c, isl_s, iss_s, iss_l, b_ok, b_st, b_ex, o_ok, o_st, o_ex, c_ok, c_st, c_ex, fin_rt, fin_nx, fin_st, nx_nx, nx_rt, nx_bk, nx_ct, nx_ex, nx_st, e_seq, e_var, e_c, e_op, e_un, e_nil, e_cons, e_call, e_tup, e_lst, e_otup, e_olst, e_gd, e_asg, e_drop, e_ret, e_retN, e_next, e_brk, e_cont, e_ifs, e_setS, e_aug, e_augS, e_tru, e_bl, e_and, e_or, e_not, e_andV, e_orV, e_notV, e_if, e_chain, e_nop, e_part, e_sl, e_iSeq, e_iR1, e_iR2, rngOk_of, rngOk2_of, e_for, e_lc, e_yes, e_mt, e_mt2, e_join, e_put, e_fits, Tg.put, TgL.puts, blP, this]
  rw [e_seq, e_asg]
  simp only [e_call, e_cons, e_var, List.getElem?_cons_zero, b_ok, e_nil, g, o_ok, Tg.put, List.set_cons_succ, List.set_cons_zero]
  rw [nx_nx, e_seq]
  have b : (fAsg (.name 2) (fCall (gd 1 f_read_page) (fCons (fVar 1) fNil))) [some (blP bs), some (blP bs), none, none] m = .nx [some (blP bs), some (blP bs), some (pgP p), none] m := by
    have g1 : gd 1 f_read_page [blP bs] m = .ok (pgP p) m := by rw [e_gd, if_pos (show [blP bs].length = 1 from rfl), r]
    rw [e_asg]
    simp only [e_call, e_cons, e_var, List.getElem?_cons_succ, List.getElem?_cons_zero, b_ok, e_nil, g1, o_ok, Tg.put, List.set_cons_succ, List.set_cons_zero]
  rw [e_tryN b, nx_nx]
  have kk : ∃ s xs, pgP p = .tup [.str s, .tup xs] ∧ (s = "leaf" ∨ s = "inner") := by
    cases p with
    | leaf es => exact ⟨_, _, rfl, .inl rfl⟩
    | inner cs => exact ⟨_, _, rfl, .inr rfl⟩
  obtain ⟨s, xs, ek, hs⟩ := kk
  have t1 : (fOr (fNot (fTru (fCall oIsi (fCons (fVar 2) (fCons (fC (.ty "tuple")) fNil))))) (fOr (fBl (fOp oNe (fCall oLen (fCons (fVar 2) fNil)) (fC (.int 2)))) (fBl (fOp oNotIn (fOp oIx (fVar 2) (fC (.int 0))) (fLst false (fCons (fC (.str ("leaf" : Str))) (fCons (fC (.str ("inner" : Str))) fNil))))))) [some (blP bs), some (blP bs), some (pgP p), none] m = .ok false m := by
    rw [ek]
    rcases hs with rfl | rfl
    · simp [mkL_f, mkL_t, wipeP, mulOk, lw_l, lw_c, lv_l, lv_c, lv_x, sv_l, sv_c, sv_x, sv_t, lw_i, lw_s, lw_t, lv_s, lv_t, lv_i, lv_n, add_ii, add_ss, add_tt, add_ll, add_lc, add_cl, add_cc, sub_ii, plus_ii, mul_ii, mul_li, fdv_ii, mod_ii, pow_ii, neg_i, sh_i, sh_s, sh_t, sh_l, sh_n, sh_b, sh_c, eq_nn, ne_nn, eq_ni, ne_ni, eq_in, ne_in, eq_nb, ne_nb, eq_bn, ne_bn, eq_ns, ne_ns, eq_sn, ne_sn, eq_ii, ne_ii, eq_bb, ne_bb, eq_ss, ne_ss, eq_is, ne_is, eq_si, ne_si, eq_bs, ne_bs, eq_sb, ne_sb, isn_n, non_n, isn_i, non_i, isn_b, non_b, isn_s, non_s, isn_t, non_t, isn_l, non_l, isn_c, non_c, isn_x, non_x, tru_n, tru_b, tru_i, tru_t, tru_l, notv_b, ix_t, ix_s, ix_l, ix_x, ix_c, ixl_c, sl_t, sl_s, sl_l, sl_c, rev_l, rev_c, len_t, len_l, len_x, len_s, len_c, list_t, list_l, list_x, list_c, tuple_t, tuple_l, tuple_c, int_i, int_b, abs_i, ord_s, isi_n, isi_b, isi_i, isi_s, isi_t, isi_l, isi_c, kindc, max_ii, min_ii, app_c, ext_c, set_c, sidx_ss, cm_ii, cm_ile, cm_igt, cm_ige, isl_l, isl_c, isl_s, iss_s, iss_l, b_ok, b_st, b_ex, o_ok, o_st, o_ex, c_ok, c_st, c_ex, fin_rt, fin_nx, fin_st, nx_nx, nx_rt, nx_bk, nx_ct, nx_ex, nx_st, e_seq, e_var, e_c, e_op, e_un, e_nil, e_cons, e_call, e_tup, e_lst, e_otup, e_olst, e_gd, e_asg, e_drop, e_ret, e_retN, e_next, e_brk, e_cont, e_ifs, e_setS, e_aug, e_augS, e_tru, e_bl, e_and, e_or, e_not, e_andV, e_orV, e_notV, e_if, e_chain, e_nop, e_part, e_sl, e_iSeq, e_iR1, e_iR2, rngOk_of, rngOk2_of, e_for, e_lc, e_yes, e_mt, e_mt2, e_join, e_put, e_fits, Tg.put, TgL.puts, atI_0, oNotIn, sv, flatP, eqFP]
    · simp [mkL_f, mkL_t, wipeP, mulOk, lw_l, lw_c, lv_l, lv_c, lv_x, sv_l, sv_c, sv_x, sv_t, lw_i, lw_s, lw_t, lv_s, lv_t, lv_i, lv_n, add_ii, add_ss, add_tt, add_ll, add_lc, add_cl, add_cc, sub_ii, plus_ii, mul_ii, mul_li, fdv_ii, mod_ii, pow_ii, neg_i, sh_i, sh_s, sh_t, sh_l, sh_n, sh_b, sh_c, eq_nn, ne_nn, eq_ni, ne_ni, eq_in, ne_in, eq_nb, ne_nb, eq_bn, ne_bn, eq_ns, ne_ns, eq_sn, ne_sn, eq_ii, ne_ii, eq_bb, ne_bb, eq_ss, ne_ss, eq_is, ne_is, eq_si, ne_si, eq_bs, ne_bs, eq_sb, ne_sb, isn_n, non_n, isn_i, non_i, isn_b, non_b, isn_s, non_s, isn_t, non_t, isn_l, non_l, isn_c, non_c, isn_x, non_x, tru_n, tru_b, tru_i, tru_t, tru_l, notv_b, ix_t, ix_s, ix_l, ix_x, ix_c, ixl_c, sl_t, sl_s, sl_l, sl_c, rev_l, rev_c, len_t, len_l, len_x, len_s, len_c, list_t, list_l, list_x, list_c, tuple_t, tuple_l, tuple_c, int_i, int_b, abs_i, ord_s, isi_n, isi_b, isi_i, isi_s, isi_t, isi_l, isi_c, kindc, max_ii, min_ii, app_c, ext_c, set_c, sidx_ss, cm_ii, cm_ile, cm_igt, cm_ige, isl_l, isl_c, isl_s, iss_s, iss_l, b_ok, b_st, b_ex, o_ok, o_st, o_ex, c_ok, c_st, c_ex, fin_rt, fin_nx, fin_st, nx_nx, nx_rt, nx_bk, nx_ct, nx_ex, nx_st, e_seq, e_var, e_c, e_op, e_un, e_nil, e_cons, e_call, e_tup, e_lst, e_otup, e_olst, e_gd, e_asg, e_drop, e_ret, e_retN, e_next, e_brk, e_cont, e_ifs, e_setS, e_aug, e_augS, e_tru, e_bl, e_and, e_or, e_not, e_andV, e_orV, e_notV, e_if, e_chain, e_nop, e_part, e_sl, e_iSeq, e_iR1, e_iR2, rngOk_of, rngOk2_of, e_for, e_lc, e_yes, e_mt, e_mt2, e_join, e_put, e_fits, Tg.put, TgL.puts, atI_0, oNotIn, sv, flatP, eqFP]
  rw [e_seq, e_ifF t1, e_next, nx_nx, e_seq]
  have t2 : (fAnd (fBl (fOp oEq (fOp oIx (fVar 2) (fC (.int 0))) (fC (.str ("inner" : Str))))) (fAnd (fBl (fOp (oCm .gt) (fCall oLen (fCons (fOp oIx (fVar 2) (fC (.int 1))) fNil)) (fC (.int 0)))) (fBl (fOp oNe (fOp oIx (fOp oIx (fOp oIx (fVar 2) (fC (.int 1))) (fC (.int 0))) (fC (.int 0))) (fTup fNil))))) [some (blP bs), some (blP bs), some (pgP p), none] m = .ok false m := by
    cases p with
    | leaf es =>
      have nq : ¬ (("leaf" : Str) = ("inner" : Str)) := by decide +kernel
      simp [mkL_f, mkL_t, wipeP, mulOk, lw_l, lw_c, lv_l, lv_c, lv_x, sv_l, sv_c, sv_x, sv_t, lw_i, lw_s, lw_t, lv_s, lv_t, lv_i, lv_n, add_ii, add_ss, add_tt, add_ll, add_lc, add_cl, add_cc, sub_ii, plus_ii, mul_ii, mul_li, fdv_ii, mod_ii, pow_ii, neg_i, sh_i, sh_s, sh_t, sh_l, sh_n, sh_b, sh_c, eq_nn, ne_nn, eq_ni, ne_ni, eq_in, ne_in, eq_nb, ne_nb, eq_bn, ne_bn, eq_ns, ne_ns, eq_sn, ne_sn, eq_ii, ne_ii, eq_bb, ne_bb, eq_ss, ne_ss, eq_is, ne_is, eq_si, ne_si, eq_bs, ne_bs, eq_sb, ne_sb, isn_n, non_n, isn_i, non_i, isn_b, non_b, isn_s, non_s, isn_t, non_t, isn_l, non_l, isn_c, non_c, isn_x, non_x, tru_n, tru_b, tru_i, tru_t, tru_l, notv_b, ix_t, ix_s, ix_l, ix_x, ix_c, ixl_c, sl_t, sl_s, sl_l, sl_c, rev_l, rev_c, len_t, len_l, len_x, len_s, len_c, list_t, list_l, list_x, list_c, tuple_t, tuple_l, tuple_c, int_i, int_b, abs_i, ord_s, isi_n, isi_b, isi_i, isi_s, isi_t, isi_l, isi_c, kindc, max_ii, min_ii, app_c, ext_c, set_c, sidx_ss, cm_ii, cm_ile, cm_igt, cm_ige, isl_l, isl_c, isl_s, iss_s, iss_l, b_ok, b_st, b_ex, o_ok, o_st, o_ex, c_ok, c_st, c_ex, fin_rt, fin_nx, fin_st, nx_nx, nx_rt, nx_bk, nx_ct, nx_ex, nx_st, e_seq, e_var, e_c, e_op, e_un, e_nil, e_cons, e_call, e_tup, e_lst, e_otup, e_olst, e_gd, e_asg, e_drop, e_ret, e_retN, e_next, e_brk, e_cont, e_ifs, e_setS, e_aug, e_augS, e_tru, e_bl, e_and, e_or, e_not, e_andV, e_orV, e_notV, e_if, e_chain, e_nop, e_part, e_sl, e_iSeq, e_iR1, e_iR2, rngOk_of, rngOk2_of, e_for, e_lc, e_yes, e_mt, e_mt2, e_join, e_put, e_fits, Tg.put, TgL.puts, pgP, atI_0, nq]
    | inner cs =>
      cases cs with
      | nil => simp [mkL_f, mkL_t, wipeP, mulOk, lw_l, lw_c, lv_l, lv_c, lv_x, sv_l, sv_c, sv_x, sv_t, lw_i, lw_s, lw_t, lv_s, lv_t, lv_i, lv_n, add_ii, add_ss, add_tt, add_ll, add_lc, add_cl, add_cc, sub_ii, plus_ii, mul_ii, mul_li, fdv_ii, mod_ii, pow_ii, neg_i, sh_i, sh_s, sh_t, sh_l, sh_n, sh_b, sh_c, eq_nn, ne_nn, eq_ni, ne_ni, eq_in, ne_in, eq_nb, ne_nb, eq_bn, ne_bn, eq_ns, ne_ns, eq_sn, ne_sn, eq_ii, ne_ii, eq_bb, ne_bb, eq_ss, ne_ss, eq_is, ne_is, eq_si, ne_si, eq_bs, ne_bs, eq_sb, ne_sb, isn_n, non_n, isn_i, non_i, isn_b, non_b, isn_s, non_s, isn_t, non_t, isn_l, non_l, isn_c, non_c, isn_x, non_x, tru_n, tru_b, tru_i, tru_t, tru_l, notv_b, ix_t, ix_s, ix_l, ix_x, ix_c, ixl_c, sl_t, sl_s, sl_l, sl_c, rev_l, rev_c, len_t, len_l, len_x, len_s, len_c, list_t, list_l, list_x, list_c, tuple_t, tuple_l, tuple_c, int_i, int_b, abs_i, ord_s, isi_n, isi_b, isi_i, isi_s, isi_t, isi_l, isi_c, kindc, max_ii, min_ii, app_c, ext_c, set_c, sidx_ss, cm_ii, cm_ile, cm_igt, cm_ige, isl_l, isl_c, isl_s, iss_s, iss_l, b_ok, b_st, b_ex, o_ok, o_st, o_ex, c_ok, c_st, c_ex, fin_rt, fin_nx, fin_st, nx_nx, nx_rt, nx_bk, nx_ct, nx_ex, nx_st, e_seq, e_var, e_c, e_op, e_un, e_nil, e_cons, e_call, e_tup, e_lst, e_otup, e_olst, e_gd, e_asg, e_drop, e_ret, e_retN, e_next, e_brk, e_cont, e_ifs, e_setS, e_aug, e_augS, e_tru, e_bl, e_and, e_or, e_not, e_andV, e_orV, e_notV, e_if, e_chain, e_nop, e_part, e_sl, e_iSeq, e_iR1, e_iR2, rngOk_of, rngOk2_of, e_for, e_lc, e_yes, e_mt, e_mt2, e_join, e_put, e_fits, Tg.put, TgL.puts, pgP, atI_0, atI_1]
      | cons c cs =>
        have hc : c.1 = [] := (w3 0 c rfl).elim id fun q => by simp at q
        obtain ⟨k, v⟩ := c
        simp only at hc
        subst hc
        have q : oNe (.tup []) (.tup []) m = .ok (.bl false) m := by
          have := eqDat_tints [] [] m
          rw [ne_tt]
          simp at this
          rw [this]; rfl
        have l : 0 < (cs.length : Int) + 1 := by omega
        simp [mkL_f, mkL_t, wipeP, mulOk, lw_l, lw_c, lv_l, lv_c, lv_x, sv_l, sv_c, sv_x, sv_t, lw_i, lw_s, lw_t, lv_s, lv_t, lv_i, lv_n, add_ii, add_ss, add_tt, add_ll, add_lc, add_cl, add_cc, sub_ii, plus_ii, mul_ii, mul_li, fdv_ii, mod_ii, pow_ii, neg_i, sh_i, sh_s, sh_t, sh_l, sh_n, sh_b, sh_c, eq_nn, ne_nn, eq_ni, ne_ni, eq_in, ne_in, eq_nb, ne_nb, eq_bn, ne_bn, eq_ns, ne_ns, eq_sn, ne_sn, eq_ii, ne_ii, eq_bb, ne_bb, eq_ss, ne_ss, eq_is, ne_is, eq_si, ne_si, eq_bs, ne_bs, eq_sb, ne_sb, isn_n, non_n, isn_i, non_i, isn_b, non_b, isn_s, non_s, isn_t, non_t, isn_l, non_l, isn_c, non_c, isn_x, non_x, tru_n, tru_b, tru_i, tru_t, tru_l, notv_b, ix_t, ix_s, ix_l, ix_x, ix_c, ixl_c, sl_t, sl_s, sl_l, sl_c, rev_l, rev_c, len_t, len_l, len_x, len_s, len_c, list_t, list_l, list_x, list_c, tuple_t, tuple_l, tuple_c, int_i, int_b, abs_i, ord_s, isi_n, isi_b, isi_i, isi_s, isi_t, isi_l, isi_c, kindc, max_ii, min_ii, app_c, ext_c, set_c, sidx_ss, cm_ii, cm_ile, cm_igt, cm_ige, isl_l, isl_c, isl_s, iss_s, iss_l, b_ok, b_st, b_ex, o_ok, o_st, o_ex, c_ok, c_st, c_ex, fin_rt, fin_nx, fin_st, nx_nx, nx_rt, nx_bk, nx_ct, nx_ex, nx_st, e_seq, e_var, e_c, e_op, e_un, e_nil, e_cons, e_call, e_tup, e_lst, e_otup, e_olst, e_gd, e_asg, e_drop, e_ret, e_retN, e_next, e_brk, e_cont, e_ifs, e_setS, e_aug, e_augS, e_tru, e_bl, e_and, e_or, e_not, e_andV, e_orV, e_notV, e_if, e_chain, e_nop, e_part, e_sl, e_iSeq, e_iR1, e_iR2, rngOk_of, rngOk2_of, e_for, e_lc, e_yes, e_mt, e_mt2, e_join, e_put, e_fits, Tg.put, TgL.puts, pgP, atI_0, atI_1, chiP, ip, q, l]
  rw [e_ifF t2, e_next, nx_nx, e_ret]
  have f : (fAndV (fOp oEq (fVar 1) (fVar 0)) (fCall (gd 2 (f_same 6)) (fCons (fCall (gd 1 f_page_bytes) (fCons (fVar 2) fNil)) (fCons (fVar 0) fNil)))) [some (blP bs), some (blP bs), some (pgP p), none] m = .ok (.bl true) m := by
    have q : oEq (blP bs) (blP bs) m = .ok (.bl true) m := by rw [blP, eq_lints]; simp
    have g1 : gd 1 f_page_bytes [pgP p] m = .ok (blP bs) m := by rw [e_gd, if_pos (show [pgP p].length = 1 from rfl), pb]
    have sm : Sm 5 (blP bs) := .lst (by rw [List.length_map]; omega) fun x hx => by
      obtain ⟨i, _, rfl⟩ := List.mem_map.mp hx
      exact .int _ _
    have g2 : gd 2 (f_same 6) [blP bs, blP bs] m = .ok (.bl true) m := by rw [e_gd, if_pos (show [blP bs, blP bs].length = 2 from rfl), same_refl 5 m sm]
    rw [e_andV, e_op]
    simp only [e_var, List.getElem?_cons_succ, List.getElem?_cons_zero, b_ok, q, tru_b, e_call, e_cons, e_nil, g1, g2]
  rw [f, o_ok, fin_rt, cut_tree0 un_bl, c_ok]
theorem tried_k {bs : List Int} (hb : bs.length ≤ 1000) (hp : ∀ x ∈ bs, 0 ≤ x ∧ x < 256) (m : M) : f_tried [blP bs] m = .ok (.bl true) m := by
  cases h : parse bs with
  | none => exact tried_none hb hp h m
  | some p => exact tried_some hb hp h m

end
/-! PZ -/
section
open PySem PySem.Spec PyProof.Rows
/-! PZ: draws -/
theorem forG_inv {g : Tg} {body : FS} {Inv : Env → M → Prop} : ∀ {xs : List P} {ρ : Env} {m : M}, (∀ x ∈ xs, ∀ ρ m, Inv ρ m → ∃ ρ1, g.put x ρ = some ρ1 ∧ ∃ ρ2 m2, body ρ1 m = .nx ρ2 m2 ∧ Inv ρ2 m2) → Inv ρ m → ∃ ρ' m', forG g body [] xs ρ m = .nx ρ' m' ∧ Inv ρ' m'
  | [], ρ, m, _, h => ⟨ρ, m, forG_nil, h⟩
  | x :: xs, ρ, m, hs, h => by
    obtain ⟨ρ1, e1, ρ2, m2, e2, h2⟩ := hs x List.mem_cons_self ρ m h
    obtain ⟨ρ', m', e3, h3⟩ := forG_inv (xs := xs) (fun y hy => hs y (List.mem_cons_of_mem _ hy)) h2
    refine ⟨ρ', m', ?_, h3⟩
    rw [forG_cons, e1]
    simp only [e2, e3]
theorem lcG_mapC {α : Type} {i : Nat} {te : FE} {ρ : Env} {m : M} {chk : List (Nat × List P)} {f : α → P} {h : α → P} (hc : chkOk m chk) : ∀ {xs : List α}, (∀ x ∈ xs, te (ρ.set i (some (f x))) m = .ok (h x) m) → lcG (.name i) fYes te chk ρ (xs.map f) m = .ok (xs.map h) m
  | [], _ => by rw [List.map_nil, lcG, if_pos hc]; rfl
  | x :: xs, hh => by
    rw [List.map_cons, lcG, if_pos hc]
    simp only [Tg.put, fYes, Res.calm, Res.bind, if_true]
    rw [hh x List.mem_cons_self]
    simp only [Res.calm, Res.bind]
    rw [lcG_mapC hc fun y hy => hh y (List.mem_cons_of_mem _ hy)]
    rfl
/-- each element with its own draws -/
theorem lcG_ex {i : Nat} {te : FE} {ρ : Env} {Inv : M → Prop} {Py : P → Prop} : ∀ {xs : List P} {m : M}, (∀ x ∈ xs, ∀ m, Inv m → ∃ y m', te (ρ.set i (some x)) m = .ok y m' ∧ Py y ∧ Inv m') → Inv m → ∃ ys m', lcG (.name i) fYes te [] ρ xs m = .ok ys m' ∧ ys.length = xs.length ∧ (∀ y ∈ ys, Py y) ∧ Inv m'
  | [], m, _, h => ⟨[], m, lcG_nil, rfl, fun _ h => (List.not_mem_nil h).elim, h⟩
  | x :: xs, m, hs, h => by
    obtain ⟨y, m1, e1, p1, h1⟩ := hs x List.mem_cons_self m h
    obtain ⟨ys, m2, e2, l2, p2, h2⟩ := lcG_ex (xs := xs) (fun z hz => hs z (List.mem_cons_of_mem _ hz)) h1
    refine ⟨y :: ys, m2, ?_, by rw [List.length_cons, List.length_cons, l2], fun z hz => (List.mem_cons.mp hz).elim (fun q => by rw [q]; exact p1) (p2 z), h2⟩
    rw [lcG_cons]
    simp only [Tg.put, fYes, Res.calm, Res.bind, if_true, e1, e2]
theorem all_map {α : Type} {Q : α → Prop} {f : α → P} : ∀ {ys : List P}, (∀ y ∈ ys, ∃ v, Q v ∧ y = f v) → ∃ vs : List α, ys = vs.map f ∧ ∀ v ∈ vs, Q v
  | [], _ => ⟨[], rfl, fun _ h => (List.not_mem_nil h).elim⟩
  | y :: ys, h => by
    obtain ⟨v, q, e⟩ := h y List.mem_cons_self
    obtain ⟨vs, e2, q2⟩ := all_map (ys := ys) fun z hz => h z (List.mem_cons_of_mem _ hz)
    exact ⟨v :: vs, by rw [e, e2]; rfl, fun z hz => (List.mem_cons.mp hz).elim (fun k => by rw [k]; exact q) (q2 z)⟩
/-! ### ranges -/
def sp (s : List Int × List Int) : P := .tup [ip s.1, ip s.2]
def ShortK (k : List Int) : Prop := k.length ≤ 1000
theorem vals_draw {n : Nat} {i : Nat} {ρ : Env} {m0 : M} (hρ : ∀ d, (ρ.set i (some d))[0]? = some (some (.cell n))) (k : Nat) : ∀ {m : M}, Stp n m0 m → ∃ (vs : List Kv) (m' : M), lcG (.name i) fYes (fCall (gd 1 f_value) (fCons (fVar 0) fNil)) [] ρ (rngP 0 k) m = .ok (vs.map kp) m' ∧ vs.length = k ∧ (∀ v ∈ vs, v.Good) ∧ Stp n m0 m' := by
  intro m hs
  obtain ⟨ys, m', e, l, p, s⟩ := lcG_ex (i := i) (te := fCall (gd 1 f_value) (fCons (fVar 0) fNil)) (ρ := ρ) (Inv := fun m => Stp n m0 m) (Py := fun y => ∃ v, Kv.Good v ∧ y = kp v) (xs := rngP 0 k) (m := m) (fun x _ m hm => by
    obtain ⟨v, m', e, g, s⟩ := value_k hm.2
    refine ⟨kp v, m', ?_, ⟨v, g, rfl⟩, hm.trans s⟩
    rw [e_call, e_cons, e_var, hρ]
    dsimp only
    rw [b_ok, e_nil, b_ok, b_ok, e_gd, if_pos (show [P.cell n].length = 1 from rfl), e]) hs
  obtain ⟨vs, rfl, g⟩ := all_map (Q := Kv.Good) (f := kp) p
  exact ⟨vs, m', e, by rw [rngP_eq, List.length_map, List.length_map, List.length_range'] at l; exact l, g, s⟩
def Byt (k : List Int) : Prop := ∀ x ∈ k, 0 ≤ x ∧ x < 256
theorem kb_byt {v : Kv} (h : v.Good) : Byt (kb v) := by
  cases v with
  | n i =>
    intro x hx
    simp only [kb, dig5, List.mem_cons, List.not_mem_nil, or_false] at hx
    omega
  | t y =>
    intro x hx
    simp only [kb, List.mem_cons, List.mem_append, List.mem_map, List.not_mem_nil, or_false] at hx
    rcases hx with rfl | ⟨c, hc, rfl⟩ | rfl
    · omega
    · have := h.2 c hc
      unfold GoodC at this; omega
    · omega
theorem keyB_byt : ∀ {vs : List Kv}, (∀ v ∈ vs, v.Good) → Byt (keyB vs)
  | [], _ => fun x hx => by simp [keyB] at hx
  | v :: vs, h => fun x hx => by
    rw [keyB, List.mem_append] at hx
    rcases hx with hx | hx
    · exact kb_byt (h v List.mem_cons_self) x hx
    · exact keyB_byt (fun w hw => h w (List.mem_cons_of_mem _ hw)) x hx
theorem next_g {n : Nat} {m m0 : M} {ρ : Env} {fe : FE} (L : Int) (hρ : fVar 0 ρ m = .ok (.cell n) m) (he : fe ρ m = .ok (.int L) m) (h : Stp n m0 m) (hL : 0 < L ∧ L < 2 ^ 62) : ∃ r m', fCall (gd 2 f_next) (fCons (fVar 0) (fCons fe fNil)) ρ m = .ok (.int r) m' ∧ 0 ≤ r ∧ r < L ∧ Stp n m0 m' := by
  obtain ⟨r, m', e, h1, h2, h3⟩ := draw L h hL
  refine ⟨r, m', ?_, h1, h2, h3⟩
  rw [e_call, e_cons, hρ, b_ok, e_cons, he, b_ok, e_nil, b_ok, b_ok, b_ok, e_gd, if_pos (show [P.cell n, P.int L].length = 2 from rfl), e]

end
/-! PZ2 -/
section
open PySem PySem.Spec PyProof.Rows
/-! PZ2: drawn keys -/
theorem iR_draw {n : Nat} {m m0 : M} {ρ : Env} {fe : FE} (L : Int) (hρ : fVar 0 ρ m = .ok (.cell n) m) (he : fe ρ m = .ok (.int L) m) (h : Stp n m0 m) (hL : 0 < L ∧ L < 1000) : ∃ (r : Nat) (m' : M), iR1 (fCons (fCall (gd 2 f_next) (fCons (fVar 0) (fCons fe fNil))) fNil) ρ m = .ok ⟨rngP 0 r, []⟩ m' ∧ (r : Int) < L ∧ Stp n m0 m' := by
  obtain ⟨r, m', e, h1, h2, h3⟩ := next_g L hρ he h (by omega)
  refine ⟨r.toNat, m', ?_, by omega, h3⟩
  rw [e_iR1, e_cons, e, b_ok, e_nil, b_ok, b_ok]
  dsimp only
  rw [rngOk_of h1 (by omega), if_pos rfl]
theorem key_k {n : Nat} {m : M} (hs : StAt n m) : ∃ (k : List Int) (m' : M), f_key [.cell n] m = .ok (ip k) m' ∧ k.length ≤ 100 ∧ Byt k ∧ Stp n m m' := by
  unfold f_key fnC fnF fb_key
  simp only [startP, List.map_cons, List.map_nil, List.length_cons, List.length_nil]
  rw [show (List.replicate (3 - (0 + 1)) (none : Option P)) = [none, none] from rfl]
  simp only [List.cons_append, List.nil_append]
  obtain ⟨r0, m1, e1, a1', b1, s1⟩ := next_g (ρ := [some (.cell n), none, none]) (fe := fC (.int 3)) 3 rfl rfl (Stp.refl hs) (by omega)
  have t : (fBl (fOp oEq (fCall (gd 2 f_next) (fCons (fVar 0) (fCons (fC (.int 3)) fNil))) (fC (.int 0)))) [some (.cell n), none, none] m = .ok (decide (r0 = 0)) m1 := by
    rw [e_bl, e_op, e1, b_ok, e_c, b_ok, eq_ii, b_ok]
  rw [e_seq, e_ifB t]
  by_cases hr : r0 = 0
  · rw [decide_eq_true hr, if_pos rfl, e_seq, e_asg]
    obtain ⟨r2, m2, e2, a2, b2, s2⟩ := next_g (ρ := [some (.cell n), none, none]) (fe := fC (.int 256)) 256 rfl rfl s1 (by omega)
    rw [e2, o_ok]
    simp only [Tg.put, List.set_cons_succ, List.set_cons_zero]
    rw [nx_nx]
    obtain ⟨q, m3, e3, b3, s3⟩ := iR_draw (ρ := [some (.cell n), some (.int r2), none]) (fe := fC (.int 61)) 61 rfl rfl s2 (by omega)
    have el : lcG (.name 2) fYes (fOp oMod (fOp (oAdd false) (fVar 1) (fOp (oMul false) (fC (.int 17)) (fVar 2))) (fC (.int 256))) [] (wipeP [some (.cell n), some (.int r2), none] [2]) (rngP 0 q) m3 = .ok (((List.range' 0 q).map fun j : Nat => (r2 + 17 * (j : Int)) % 256).map .int) m3 := by
      rw [rngP_eq, List.map_map]
      refine lcG_map fun j hj => ?_
      have g : mulOk 17 (j : Int) = true := decide_eq_true (by omega)
      have d : decide ((0 : Int) < 256) = true := by decide
      show (fOp oMod (fOp (oAdd false) (fVar 1) (fOp (oMul false) (fC (.int 17)) (fVar 2))) (fC (.int 256))) [some (.cell n), some (.int r2), some (.int (j : Int))] m3 = _
      simp only [e_op, e_var, List.getElem?_cons_succ, List.getElem?_cons_zero, b_ok, e_c, mul_ii, g, if_true, add_ii, mod_ii, d, Function.comp]
    have rl : (rngP 0 q).length ≤ 100000 := by rw [rngP_eq, List.length_map, List.length_range']; omega
    refine ⟨(List.range' 0 q).map fun j : Nat => (r2 + 17 * (j : Int)) % 256, m3, ?_, by rw [List.length_map, List.length_range']; omega, fun x hx => ?_, s3⟩
    · rw [e_ret, e_call, e_cons, e_lc, e3, b_ok, if_pos (fits_le rl)]
      dsimp only
      rw [el, b_ok, mkL_f, b_ok, e_nil, b_ok, b_ok, tuple_l, o_ok, nx_rt, fin_rt]
      show (cutV' m (ip _) m3).calm = _
      rw [s3.cut0 un_ip, c_ok]
    · obtain ⟨j, _, rfl⟩ := List.mem_map.mp hx
      omega
  · rw [decide_eq_false hr, if_neg Bool.false_ne_true, e_next, nx_nx]
    obtain ⟨q, m3, e3, b3, s3⟩ := iR_draw (ρ := [some (.cell n), none, none]) (fe := fC (.int 4)) 4 rfl rfl s1 (by omega)
    obtain ⟨vs, m4, e4, l4, g4, s4⟩ := vals_draw (n := n) (i := 2) (ρ := wipeP [some (.cell n), none, none] [2]) (fun d => rfl) q s3
    have rl : (rngP 0 q).length ≤ 100000 := by rw [rngP_eq, List.length_map, List.length_range']; omega
    have kl := keyB_len g4
    refine ⟨keyB vs, m4, ?_, by omega, keyB_byt g4, s4⟩
    rw [e_ret, e_call, e_cons, e_call, e_cons, e_lc, e3, b_ok, if_pos (fits_le rl)]
    dsimp only
    rw [e4, b_ok, mkL_f, b_ok, e_nil, b_ok, b_ok, tuple_l, b_ok, e_nil, b_ok, b_ok, e_gd, if_pos (show [P.tup (vs.map kp)].length = 1 from rfl), lbytes_k g4 (by omega), o_ok, fin_rt, s4.cut0 un_ip, c_ok]

end
/-! PZ3 -/
section
open PySem PySem.Spec PyProof.Rows
/-! PZ3: draws beside a list that grows -/
theorem StAt.app {n : Nat} {m l : M} (h : StAt n m) : StAt n (m ++ l) := by
  obtain ⟨sc, i, hh, s, e, q⟩ := h
  exact ⟨sc, i, hh, s, by rw [List.getElem?_append_left (List.getElem?_eq_some_iff.mp e).1]; exact e, q⟩
theorem Stp.split {n : Nat} {m1 M2 : M} {c : Cell} (hn : n < m1.length) (h : Stp n (m1 ++ [c]) M2) : ∃ m2, Stp n m1 m2 ∧ M2 = m2 ++ [c] := by
  obtain ⟨⟨c', e⟩, sc, i, hh, s, e2, q⟩ := h
  rw [List.set_append_left _ _ hn] at e
  subst e
  refine ⟨m1.set n c', ⟨⟨c', rfl⟩, sc, i, hh, s, ?_, q⟩, rfl⟩
  rwa [List.getElem?_append_left (by rw [List.length_set]; exact hn)] at e2

end
/-! PZ4 -/
section
open PySem PySem.Spec PyProof.Rows
/-! PZ4: drawn pages -/
/-- what a drawn page is -/
def Pg.Drawn : Pg → Prop
  | .leaf es => es.length ≤ 20 ∧ ∀ e ∈ es, e.1.length ≤ 100 ∧ Byt e.1 ∧ e.2.length ≤ 12 ∧ ∀ v ∈ e.2, v.Good
  | .inner cs => cs.length ≤ 20 ∧ (∀ c ∈ cs, c.1.length ≤ 100 ∧ Byt c.1 ∧ 0 ≤ c.2 ∧ c.2 < 65536) ∧ ∀ c, cs[0]? = some c → c.1 = []
theorem flatB_le {α : Type} {f : α → List Int} {b : Nat} : ∀ {xs : List α}, (∀ x ∈ xs, (f x).length ≤ b) → (flatB f xs).length ≤ b * xs.length
  | [], _ => by simp [flatB]
  | x :: xs, h => by
    have h1 := h x List.mem_cons_self
    have h2 := flatB_le (xs := xs) fun y hy => h y (List.mem_cons_of_mem _ hy)
    rw [flatB, List.length_append, List.length_cons, Nat.mul_succ]; omega
theorem Pg.Drawn.small {p : Pg} (h : p.Drawn) : p.Small := by
  cases p with
  | leaf es =>
    obtain ⟨h1, h2⟩ := h
    refine ⟨by omega, ?_, fun e he => ?_⟩
    · have : (flatB entB es).length ≤ 300 * es.length := flatB_le fun e he => by
        obtain ⟨q1, _, q2, q3⟩ := h2 e he
        have := keyB_len q3
        simp only [entB, List.length_cons, List.length_append]; omega
      omega
    · obtain ⟨q1, _, q2, q3⟩ := h2 e he
      exact ⟨by omega, by omega, q3⟩
  | inner cs =>
    obtain ⟨h1, h2, h3⟩ := h
    refine ⟨by omega, ?_, fun c hc => by have := (h2 c hc).1; omega⟩
    have : (flatB chiB cs).length ≤ 300 * cs.length := flatB_le fun c hc => by
      have := (h2 c hc).1
      simp only [chiB, List.length_cons]; omega
    omega

end
/-! K8a -/
section
open PySem PySem.Spec PyProof.Rows
/-! K8a: keys and back -/
def good (c : Int) : Bool := decide (32 ≤ c ∧ c ≤ 126 ∧ c ≠ 37)
theorem txtAt_first : ∀ (n : Nat) (acc : List Nat) (cs r : List Int), 0 ∉ cs → txtAt n acc (cs ++ 0 :: r) = if cs.length < n ∧ cs.all good = true then some (acc ++ cs.map Int.toNat) else none
  | 0, acc, cs, r, h => by simp [txtAt]
  | n + 1, acc, [], r, h => by simp [txtAt]
  | n + 1, acc, c :: cs, r, h => by
    have hc : c ≠ 0 := fun e => h (by rw [e]; exact List.mem_cons_self)
    have ih := txtAt_first n (acc ++ [c.toNat]) cs r (fun q => h (List.mem_cons_of_mem _ q))
    rw [List.cons_append, txtAt, if_neg hc]
    by_cases hg : 32 ≤ c ∧ c ≤ 126 ∧ c ≠ 37
    · rw [if_pos hg, ih]
      have : good c = true := decide_eq_true hg
      simp [this]
    · rw [if_neg hg, if_neg]
      simp only [List.all_cons, Bool.and_eq_true, not_and]
      intro _ q
      exact absurd (of_decide_eq_true q) hg
theorem foldB_dig (z : Int) (h : 0 ≤ z ∧ z < 1099511627776) : foldB (dig5 z) = z := by
  simp only [foldB, dig5, List.foldl_cons, List.foldl_nil]
  omega
theorem intAt_dig {i : Int} (h : Kv.Good (.n i)) (l : List Int) : intAt (dig5 (i + 549755813888) ++ l) = some i := by
  obtain ⟨h1, h2⟩ := h
  have e : (dig5 (i + 549755813888) ++ l).take 5 = dig5 (i + 549755813888) := rfl
  unfold intAt
  rw [if_neg (by simp [dig5]), e, foldB_dig _ (by omega)]
  have e2 : i + 549755813888 - 549755813888 = i := by omega
  rw [e2, if_pos (show inB i = true from decide_eq_true (by omega))]
theorem txtAt_kb {x : List Nat} (h : Kv.Good (.t x)) (l : List Int) : txtAt 7 [] (x.map (fun c : Nat => (c : Int)) ++ 0 :: l) = some x := by
  obtain ⟨h1, h2⟩ := h
  rw [txtAt_first 7 [] _ l (fun q => by
    obtain ⟨c, hc, e⟩ := List.mem_map.mp q
    have := (h2 c hc).1
    omega)]
  rw [if_pos]
  · rw [List.map_map]
    have : (Int.toNat ∘ fun c : Nat => (c : Int)) = id := by funext c; simp
    rw [this]; simp
  · refine ⟨by rw [List.length_map]; omega, List.all_eq_true.mpr fun c hc => ?_⟩
    obtain ⟨d, hd, rfl⟩ := List.mem_map.mp hc
    have := h2 d hd
    unfold GoodC at this
    exact decide_eq_true (by omega)
theorem dec_keyB : ∀ (vs : List Kv) (f : Nat) (acc : List Kv), (∀ v ∈ vs, v.Good) → (keyB vs).length < f → dec f (keyB vs) acc = some (acc ++ vs)
  | [], 0, acc, _, h => by omega
  | [], f + 1, acc, _, _ => by simp [keyB, dec]
  | v :: vs, 0, acc, _, h => by omega
  | .n i :: vs, f + 1, acc, hg, h => by
    have hi := intAt_dig (hg _ List.mem_cons_self) (keyB vs)
    have e : keyB (.n i :: vs) = 1 :: (dig5 (i + 549755813888) ++ keyB vs) := rfl
    have hd : (dig5 (i + 549755813888) ++ keyB vs).drop 5 = keyB vs := rfl
    rw [e] at h ⊢
    have hl : (dig5 (i + 549755813888)).length = 5 := rfl
    simp only [List.length_cons, List.length_append, hl] at h
    rw [dec, if_pos rfl, hi]
    simp only [hd]
    rw [dec_keyB vs f _ (fun w hw => hg w (List.mem_cons_of_mem _ hw)) (by omega), List.append_assoc]
    rfl
  | .t x :: vs, f + 1, acc, hg, h => by
    have hi := txtAt_kb (hg _ List.mem_cons_self) (keyB vs)
    have e : keyB (.t x :: vs) = 2 :: (x.map (fun c : Nat => (c : Int)) ++ 0 :: keyB vs) := by
      show kb (.t x) ++ keyB vs = _
      simp [kb]
    have hd : (x.map (fun c : Nat => (c : Int)) ++ 0 :: keyB vs).drop (x.length + 1) = keyB vs := by
      rw [List.drop_append, List.drop_of_length_le (by rw [List.length_map]; omega), List.length_map, show x.length + 1 - x.length = 1 by omega]
      rfl
    rw [e] at h ⊢
    simp only [List.length_cons, List.length_append, List.length_map] at h
    rw [dec, if_neg (by decide), if_pos rfl, hi]
    simp only [hd]
    rw [dec_keyB vs f _ (fun w hw => hg w (List.mem_cons_of_mem _ hw)) (by omega), List.append_assoc]
    rfl
theorem decode_keyB {vs : List Kv} (h : ∀ v ∈ vs, v.Good) : decode (keyB vs) = some vs := by
  unfold decode
  rw [dec_keyB vs _ [] h (by omega)]
  rfl

end
/-! PZ5 -/
section
open PySem PySem.Spec PyProof.Rows
/-! PZ5: drawn pages, leaves -/
theorem mem1 {L : Nat} {m : M} {c : Cell} (h : m.length = L) : (m ++ [c])[L]? = some c := by subst h; exact get_end
theorem set1 {L : Nat} {m : M} {c d : Cell} (h : m.length = L) : (m ++ [c]).set L d = m ++ [d] := by subst h; exact set_end
def GoodE (e : List Int × List Kv) : Prop := e.1.length ≤ 100 ∧ Byt e.1 ∧ e.2.length ≤ 12 ∧ ∀ v ∈ e.2, v.Good
theorem isL_at {m : M} {n : Nat} {xs : List P} (h : m[n]? = some (.lst xs)) : isL m (.cell n) = true := by rw [isl_c, lv_c, h]; rfl
theorem app_at {m : M} {n : Nat} {xs : List P} {d : P} (h : m[n]? = some (.lst xs)) (hl : xs.length < 100000) : oAppend (.cell n) [d] m = .ok .non (m.set n (.lst (xs ++ [d]))) := by
  rw [app_c, h]
  show (if decide (xs.length < 100000) = true then _ else _) = _
  rw [if_pos (decide_eq_true hl)]
theorem drop_append {m m2 : M} {n : Nat} {i : Nat} {ρ : Env} {fa : FE} {d : P} {xs ys : List P} (hv : ρ[i]? = some (some (.cell n))) (h : m[n]? = some (.lst xs)) (ha : fa ρ m = .ok d m2) (h2 : m2[n]? = some (.lst ys)) (hl : ys.length < 100000) : fDrop (fMt isL oAppend (fVar i) (fCons fa fNil)) ρ m = .nx ρ (m2.set n (.lst (ys ++ [d]))) := by
  rw [e_drop, e_mt, e_var, hv]
  dsimp only
  rw [b_ok, if_pos (isL_at h), e_cons, ha, b_ok, e_nil, b_ok, b_ok, app_at h2 hl, o_ok]
theorem tup2 {ρ : Env} {m m1 m2 : M} {fa fb : FE} {a b : P} (ha : fa ρ m = .ok a m1) (hb : fb ρ m1 = .ok b m2) : fTup (fCons fa (fCons fb fNil)) ρ m = .ok (.tup [a, b]) m2 := by
  rw [e_tup, e_cons, ha, b_ok, e_cons, hb, b_ok, e_nil, b_ok, b_ok, b_ok, e_otup]
  exact if_pos (fits_of (by show 2 ≤ 100000; decide))
theorem call1 {ρ : Env} {m m1 m2 : M} {fa : FE} {f : FN} {a b : P} (ha : fa ρ m = .ok a m1) (hf : f [a] m1 = .ok b m2) : fCall (gd 1 f) (fCons fa fNil) ρ m = .ok b m2 := by
  rw [e_call, e_cons, ha, b_ok, e_nil, b_ok, b_ok, e_gd, if_pos (show [a].length = 1 from rfl), hf]
theorem vals_tup {n : Nat} {i : Nat} {ρ : Env} {m0 m : M} (L : Int) (h0 : ρ[0]? = some (some (.cell n))) (hw : ∀ d, ((wipeP ρ [i]).set i (some d))[0]? = some (some (.cell n))) (h : Stp n m0 m) (hL : 0 < L ∧ L < 1000) : ∃ (vs : List Kv) (m' : M), fCall oTuple (fCons (fLc false (iR1 (fCons (fCall (gd 2 f_next) (fCons (fVar 0) (fCons (fC (.int L)) fNil))) fNil)) (.name i) fYes (fCall (gd 1 f_value) (fCons (fVar 0) fNil)) [i]) fNil) ρ m = .ok (.tup (vs.map kp)) m' ∧ (vs.length : Int) < L ∧ (∀ v ∈ vs, v.Good) ∧ Stp n m0 m' := by
  obtain ⟨q, m3, e3, b3, s3⟩ := iR_draw (ρ := ρ) (fe := fC (.int L)) L (by rw [e_var, h0]) rfl h hL
  obtain ⟨vs, m4, e4, l4, g4, s4⟩ := vals_draw (n := n) (i := i) (ρ := wipeP ρ [i]) hw q s3
  have rl : (rngP 0 q).length ≤ 100000 := by rw [rngP_eq, List.length_map, List.length_range']; omega
  refine ⟨vs, m4, ?_, by omega, g4, s4⟩
  rw [e_call, e_cons, e_lc, e3, b_ok, if_pos (fits_le rl)]
  dsimp only
  rw [e4, b_ok, mkL_f, b_ok, e_nil, b_ok, b_ok, tuple_l]
theorem leaf_loop {n L : Nat} (hn : n < L) : ∀ (xs : List P) (es : List (List Int × List Kv)) (m1 : M) (o2 o3 o4 o5 : Option P), StAt n m1 → m1.length = L → es.length + xs.length ≤ 1000 → ∃ es' m2 p2, forG (.name 2) (fDrop (fMt isL oAppend (fVar 1) (fCons (fTup (fCons (fCall (gd 1 f_key) (fCons (fVar 0) fNil)) (fCons (fCall oTuple (fCons (fLc false (iR1 (fCons (fCall (gd 2 f_next) (fCons (fVar 0) (fCons (fC (.int 6)) fNil))) fNil)) (.name 5) fYes (fCall (gd 1 f_value) (fCons (fVar 0) fNil)) [5]) fNil)) fNil))) fNil))) [] xs [some (.cell n), some (.cell L), o2, o3, o4, o5] (m1 ++ [.lst (es.map entP)]) = .nx [some (.cell n), some (.cell L), p2, o3, o4, o5] (m2 ++ [.lst ((es ++ es').map entP)]) ∧ es'.length = xs.length ∧ (∀ e ∈ es', GoodE e) ∧ Stp n m1 m2
  | [], es, m1, o2, o3, o4, o5, hs, hL, _ => ⟨[], m1, o2, by rw [forG_nil, List.append_nil], rfl, fun _ h => (List.not_mem_nil h).elim, Stp.refl hs⟩
  | x :: xs, es, m1, o2, o3, o4, o5, hs, hL, hk => by
    obtain ⟨k, mk, e1, k1, k2, s⟩ := key_k (hs.app (l := [.lst (es.map entP)]))
    obtain ⟨m2, s1, rfl⟩ := Stp.split (by omega) s
    obtain ⟨vs, mv, e2, k3, k4, t⟩ := vals_tup (i := 5) (ρ := [some (.cell n), some (.cell L), some x, o3, o4, o5]) 6 rfl (fun d => rfl) (Stp.refl s.2) (by omega)
    have l2 : m2.length = L := by rw [s1.len]; exact hL
    obtain ⟨m3, s2, rfl⟩ := Stp.split (by omega) t
    have l3 : m3.length = L := by rw [s2.len]; exact l2
    have hd : (es.map entP).length < 100000 := by rw [List.length_map]; simp only [List.length_cons] at hk; omega
    obtain ⟨es', m4, p2, e5, q1, q2, q3⟩ := leaf_loop hn xs (es ++ [(k, vs)]) m3 (some x) o3 o4 o5 s2.2 l3 (by simp only [List.length_append, List.length_cons, List.length_nil] at hk ⊢; omega)
    refine ⟨(k, vs) :: es', m4, p2, ?_, by rw [List.length_cons, List.length_cons, q1], fun e he => ?_, (s1.trans s2).trans q3⟩
    · rw [forG_cons]
      simp only [Tg.put, List.set_cons_succ, List.set_cons_zero]
      rw [drop_append (n := L) (d := entP (k, vs)) (xs := es.map entP) (ys := es.map entP) rfl (mem1 hL) (tup2 (call1 rfl e1) e2) (mem1 l3) hd]
      dsimp only
      rw [set1 l3]
      have : es.map entP ++ [entP (k, vs)] = (es ++ [(k, vs)]).map entP := by rw [List.map_append]; rfl
      rw [this, e5, List.append_assoc]
      rfl
    · rcases List.mem_cons.mp he with rfl | he
      · exact ⟨k1, k2, by show vs.length ≤ 12; omega, k4⟩
      · exact q2 e he

end
/-! PZ6 -/
section
open PySem PySem.Spec PyProof.Rows
/-! PZ6: drawn pages, inner ones; page_k -/
theorem pick2 {n : Nat} {m0 m : M} {ρ : Env} {i : Nat} (a b : Int) (h0 : ρ[i]? = some (some (.cell n))) (h : Stp n m0 m) : ∃ (r : Int) (m' : M), fOp oIx (fLst false (fCons (fC (.int a)) (fCons (fC (.int b)) fNil))) (fCall (gd 2 f_next) (fCons (fVar i) (fCons (fC (.int 2)) fNil))) ρ m = .ok (.int r) m' ∧ (r = a ∨ r = b) ∧ Stp n m0 m' := by
  obtain ⟨r, m', e, h1, h2, h3⟩ := draw 2 h (by omega)
  have hr : r = 0 ∨ r = 1 := by omega
  rcases hr with rfl | rfl
  · exact ⟨a, m', by simp [mkL_f, mkL_t, wipeP, mulOk, lw_l, lw_c, lv_l, lv_c, lv_x, sv_l, sv_c, sv_x, sv_t, lw_i, lw_s, lw_t, lv_s, lv_t, lv_i, lv_n, add_ii, add_ss, add_tt, add_ll, add_lc, add_cl, add_cc, sub_ii, plus_ii, mul_ii, mul_li, fdv_ii, mod_ii, pow_ii, neg_i, sh_i, sh_s, sh_t, sh_l, sh_n, sh_b, sh_c, eq_nn, ne_nn, eq_ni, ne_ni, eq_in, ne_in, eq_nb, ne_nb, eq_bn, ne_bn, eq_ns, ne_ns, eq_sn, ne_sn, eq_ii, ne_ii, eq_bb, ne_bb, eq_ss, ne_ss, eq_is, ne_is, eq_si, ne_si, eq_bs, ne_bs, eq_sb, ne_sb, isn_n, non_n, isn_i, non_i, isn_b, non_b, isn_s, non_s, isn_t, non_t, isn_l, non_l, isn_c, non_c, isn_x, non_x, tru_n, tru_b, tru_i, tru_t, tru_l, notv_b, ix_t, ix_s, ix_l, ix_x, ix_c, ixl_c, sl_t, sl_s, sl_l, sl_c, rev_l, rev_c, len_t, len_l, len_x, len_s, len_c, list_t, list_l, list_x, list_c, tuple_t, tuple_l, tuple_c, int_i, int_b, abs_i, ord_s, isi_n, isi_b, isi_i, isi_s, isi_t, isi_l, isi_c, kindc, max_ii, min_ii, app_c, ext_c, set_c, sidx_ss, cm_ii, cm_ile, cm_igt, cm_ige, isl_l, isl_c, isl_s, iss_s, iss_l, b_ok, b_st, b_ex, o_ok, o_st, o_ex, c_ok, c_st, c_ex, fin_rt, fin_nx, fin_st, nx_nx, nx_rt, nx_bk, nx_ct, nx_ex, nx_st, e_seq, e_var, e_c, e_op, e_un, e_nil, e_cons, e_call, e_tup, e_lst, e_otup, e_olst, e_gd, e_asg, e_drop, e_ret, e_retN, e_next, e_brk, e_cont, e_ifs, e_setS, e_aug, e_augS, e_tru, e_bl, e_and, e_or, e_not, e_andV, e_orV, e_notV, e_if, e_chain, e_nop, e_part, e_sl, e_iSeq, e_iR1, e_iR2, rngOk_of, rngOk2_of, e_for, e_lc, e_yes, e_mt, e_mt2, e_join, e_put, e_fits, Tg.put, TgL.puts, h0, e, atI_0], .inl rfl, h3⟩
  · exact ⟨b, m', by simp [mkL_f, mkL_t, wipeP, mulOk, lw_l, lw_c, lv_l, lv_c, lv_x, sv_l, sv_c, sv_x, sv_t, lw_i, lw_s, lw_t, lv_s, lv_t, lv_i, lv_n, add_ii, add_ss, add_tt, add_ll, add_lc, add_cl, add_cc, sub_ii, plus_ii, mul_ii, mul_li, fdv_ii, mod_ii, pow_ii, neg_i, sh_i, sh_s, sh_t, sh_l, sh_n, sh_b, sh_c, eq_nn, ne_nn, eq_ni, ne_ni, eq_in, ne_in, eq_nb, ne_nb, eq_bn, ne_bn, eq_ns, ne_ns, eq_sn, ne_sn, eq_ii, ne_ii, eq_bb, ne_bb, eq_ss, ne_ss, eq_is, ne_is, eq_si, ne_si, eq_bs, ne_bs, eq_sb, ne_sb, isn_n, non_n, isn_i, non_i, isn_b, non_b, isn_s, non_s, isn_t, non_t, isn_l, non_l, isn_c, non_c, isn_x, non_x, tru_n, tru_b, tru_i, tru_t, tru_l, notv_b, ix_t, ix_s, ix_l, ix_x, ix_c, ixl_c, sl_t, sl_s, sl_l, sl_c, rev_l, rev_c, len_t, len_l, len_x, len_s, len_c, list_t, list_l, list_x, list_c, tuple_t, tuple_l, tuple_c, int_i, int_b, abs_i, ord_s, isi_n, isi_b, isi_i, isi_s, isi_t, isi_l, isi_c, kindc, max_ii, min_ii, app_c, ext_c, set_c, sidx_ss, cm_ii, cm_ile, cm_igt, cm_ige, isl_l, isl_c, isl_s, iss_s, iss_l, b_ok, b_st, b_ex, o_ok, o_st, o_ex, c_ok, c_st, c_ex, fin_rt, fin_nx, fin_st, nx_nx, nx_rt, nx_bk, nx_ct, nx_ex, nx_st, e_seq, e_var, e_c, e_op, e_un, e_nil, e_cons, e_call, e_tup, e_lst, e_otup, e_olst, e_gd, e_asg, e_drop, e_ret, e_retN, e_next, e_brk, e_cont, e_ifs, e_setS, e_aug, e_augS, e_tru, e_bl, e_and, e_or, e_not, e_andV, e_orV, e_notV, e_if, e_chain, e_nop, e_part, e_sl, e_iSeq, e_iR1, e_iR2, rngOk_of, rngOk2_of, e_for, e_lc, e_yes, e_mt, e_mt2, e_join, e_put, e_fits, Tg.put, TgL.puts, h0, e, atI_1], .inr rfl, h3⟩
theorem next_i {n : Nat} {m m1 m0 : M} {ρ : Env} {fe : FE} {i : Nat} (L : Int) (h0 : ρ[i]? = some (some (.cell n))) (he : fe ρ m = .ok (.int L) m1) (h : Stp n m0 m1) (hL : 0 < L ∧ L < 2 ^ 62) : ∃ r m', fCall (gd 2 f_next) (fCons (fVar i) (fCons fe fNil)) ρ m = .ok (.int r) m' ∧ 0 ≤ r ∧ r < L ∧ Stp n m0 m' := by
  obtain ⟨r, m', e, h1, h2, h3⟩ := draw L h hL
  refine ⟨r, m', ?_, h1, h2, h3⟩
  rw [e_call, e_cons, e_var, h0]
  dsimp only
  rw [b_ok, e_cons, he, b_ok, e_nil, b_ok, b_ok, b_ok, e_gd, if_pos (show [P.cell n, P.int L].length = 2 from rfl), e]
def GoodC2 (c : List Int × Int) : Prop := c.1.length ≤ 100 ∧ Byt c.1 ∧ 0 ≤ c.2 ∧ c.2 < 65536
theorem first_key {k : List Int} {s : Nat} {ρ : Env} {m : M} {i j : Nat} (h4 : ρ[i]? = some (some (ip k))) (h2 : ρ[j]? = some (some (.int (s : Int)))) : (fOp oIx (fLst false (fCons (fVar i) (fCons (fTup fNil) fNil))) (fCall oInt (fCons (fOp oEq (fVar j) (fC (.int 0))) fNil))) ρ m = .ok (ip (if s = 0 then [] else k)) m := by
  by_cases h : s = 0
  · subst h
    have h2' : ρ[j]? = some (some (.int 0)) := h2
    simp [mkL_f, mkL_t, wipeP, mulOk, lw_l, lw_c, lv_l, lv_c, lv_x, sv_l, sv_c, sv_x, sv_t, lw_i, lw_s, lw_t, lv_s, lv_t, lv_i, lv_n, add_ii, add_ss, add_tt, add_ll, add_lc, add_cl, add_cc, sub_ii, plus_ii, mul_ii, mul_li, fdv_ii, mod_ii, pow_ii, neg_i, sh_i, sh_s, sh_t, sh_l, sh_n, sh_b, sh_c, eq_nn, ne_nn, eq_ni, ne_ni, eq_in, ne_in, eq_nb, ne_nb, eq_bn, ne_bn, eq_ns, ne_ns, eq_sn, ne_sn, eq_ii, ne_ii, eq_bb, ne_bb, eq_ss, ne_ss, eq_is, ne_is, eq_si, ne_si, eq_bs, ne_bs, eq_sb, ne_sb, isn_n, non_n, isn_i, non_i, isn_b, non_b, isn_s, non_s, isn_t, non_t, isn_l, non_l, isn_c, non_c, isn_x, non_x, tru_n, tru_b, tru_i, tru_t, tru_l, notv_b, ix_t, ix_s, ix_l, ix_x, ix_c, ixl_c, sl_t, sl_s, sl_l, sl_c, rev_l, rev_c, len_t, len_l, len_x, len_s, len_c, list_t, list_l, list_x, list_c, tuple_t, tuple_l, tuple_c, int_i, int_b, abs_i, ord_s, isi_n, isi_b, isi_i, isi_s, isi_t, isi_l, isi_c, kindc, max_ii, min_ii, app_c, ext_c, set_c, sidx_ss, cm_ii, cm_ile, cm_igt, cm_ige, isl_l, isl_c, isl_s, iss_s, iss_l, b_ok, b_st, b_ex, o_ok, o_st, o_ex, c_ok, c_st, c_ex, fin_rt, fin_nx, fin_st, nx_nx, nx_rt, nx_bk, nx_ct, nx_ex, nx_st, e_seq, e_var, e_c, e_op, e_un, e_nil, e_cons, e_call, e_tup, e_lst, e_otup, e_olst, e_gd, e_asg, e_drop, e_ret, e_retN, e_next, e_brk, e_cont, e_ifs, e_setS, e_aug, e_augS, e_tru, e_bl, e_and, e_or, e_not, e_andV, e_orV, e_notV, e_if, e_chain, e_nop, e_part, e_sl, e_iSeq, e_iR1, e_iR2, rngOk_of, rngOk2_of, e_for, e_lc, e_yes, e_mt, e_mt2, e_join, e_put, e_fits, Tg.put, TgL.puts, h4, h2', atI_1, ip]
  · have q : ¬ ((s : Int) = 0) := by omega
    simp [mkL_f, mkL_t, wipeP, mulOk, lw_l, lw_c, lv_l, lv_c, lv_x, sv_l, sv_c, sv_x, sv_t, lw_i, lw_s, lw_t, lv_s, lv_t, lv_i, lv_n, add_ii, add_ss, add_tt, add_ll, add_lc, add_cl, add_cc, sub_ii, plus_ii, mul_ii, mul_li, fdv_ii, mod_ii, pow_ii, neg_i, sh_i, sh_s, sh_t, sh_l, sh_n, sh_b, sh_c, eq_nn, ne_nn, eq_ni, ne_ni, eq_in, ne_in, eq_nb, ne_nb, eq_bn, ne_bn, eq_ns, ne_ns, eq_sn, ne_sn, eq_ii, ne_ii, eq_bb, ne_bb, eq_ss, ne_ss, eq_is, ne_is, eq_si, ne_si, eq_bs, ne_bs, eq_sb, ne_sb, isn_n, non_n, isn_i, non_i, isn_b, non_b, isn_s, non_s, isn_t, non_t, isn_l, non_l, isn_c, non_c, isn_x, non_x, tru_n, tru_b, tru_i, tru_t, tru_l, notv_b, ix_t, ix_s, ix_l, ix_x, ix_c, ixl_c, sl_t, sl_s, sl_l, sl_c, rev_l, rev_c, len_t, len_l, len_x, len_s, len_c, list_t, list_l, list_x, list_c, tuple_t, tuple_l, tuple_c, int_i, int_b, abs_i, ord_s, isi_n, isi_b, isi_i, isi_s, isi_t, isi_l, isi_c, kindc, max_ii, min_ii, app_c, ext_c, set_c, sidx_ss, cm_ii, cm_ile, cm_igt, cm_ige, isl_l, isl_c, isl_s, iss_s, iss_l, b_ok, b_st, b_ex, o_ok, o_st, o_ex, c_ok, c_st, c_ex, fin_rt, fin_nx, fin_st, nx_nx, nx_rt, nx_bk, nx_ct, nx_ex, nx_st, e_seq, e_var, e_c, e_op, e_un, e_nil, e_cons, e_call, e_tup, e_lst, e_otup, e_olst, e_gd, e_asg, e_drop, e_ret, e_retN, e_next, e_brk, e_cont, e_ifs, e_setS, e_aug, e_augS, e_tru, e_bl, e_and, e_or, e_not, e_andV, e_orV, e_notV, e_if, e_chain, e_nop, e_part, e_sl, e_iSeq, e_iR1, e_iR2, rngOk_of, rngOk2_of, e_for, e_lc, e_yes, e_mt, e_mt2, e_join, e_put, e_fits, Tg.put, TgL.puts, h4, h2, atI_0, h, q]
theorem inner_loop {n L : Nat} (hn : n < L) : ∀ (k : Nat) (cs : List (List Int × Int)) (m1 : M) (o1 o2 o4 o5 : Option P), StAt n m1 → m1.length = L → cs.length + k ≤ 1000 → ∃ cs' m2 p2 p4, forG (.name 2) (fSeq (fAsg (.name 4) (fCall (gd 1 f_key) (fCons (fVar 0) fNil)))
  (fDrop (fMt isL oAppend (fVar 3) (fCons (fTup (fCons (fOp oIx (fLst false (fCons (fVar 4) (fCons (fTup fNil) fNil))) (fCall oInt (fCons (fOp oEq (fVar 2) (fC (.int 0))) fNil))) (fCons (fCall (gd 2 f_next) (fCons (fVar 0) (fCons (fOp oIx (fLst false (fCons (fC (.int 300)) (fCons (fC (.int 65536)) fNil))) (fCall (gd 2 f_next) (fCons (fVar 0) (fCons (fC (.int 2)) fNil)))) fNil))) fNil))) fNil)))) [] ((List.range' cs.length k).map fun i : Nat => .int (i : Int)) [some (.cell n), o1, o2, some (.cell L), o4, o5] (m1 ++ [.lst (cs.map chiP)]) = .nx [some (.cell n), o1, p2, some (.cell L), p4, o5] (m2 ++ [.lst ((cs ++ cs').map chiP)]) ∧ cs'.length = k ∧ (∀ e ∈ cs', GoodC2 e) ∧ (∀ c, cs.length = 0 → cs'[0]? = some c → c.1 = []) ∧ Stp n m1 m2
  | 0, cs, m1, o1, o2, o4, o5, hs, hL, _ => ⟨[], m1, o2, o4, by rw [List.range'_zero, List.map_nil, forG_nil, List.append_nil], rfl, fun _ h => (List.not_mem_nil h).elim, fun c _ h => by simp at h, Stp.refl hs⟩
  | k + 1, cs, m1, o1, o2, o4, o5, hs, hL, hk => by
    obtain ⟨ky, mk, e1, k1, k2, s⟩ := key_k (hs.app (l := [.lst (cs.map chiP)]))
    obtain ⟨m2, s1, rfl⟩ := Stp.split (by omega) s
    have l2 : m2.length = L := by rw [s1.len]; exact hL
    obtain ⟨b, mb, eb, hb, tb⟩ := pick2 (i := 0) (ρ := [some (.cell n), o1, some (.int (cs.length : Int)), some (.cell L), some (ip ky), o5]) 300 65536 rfl (Stp.refl s.2)
    obtain ⟨v, mv, ev, v1, v2, tv⟩ := next_i (i := 0) (ρ := [some (.cell n), o1, some (.int (cs.length : Int)), some (.cell L), some (ip ky), o5]) b rfl eb tb (by omega)
    obtain ⟨m3, s2, rfl⟩ := Stp.split (by omega) tv
    have l3 : m3.length = L := by rw [s2.len]; exact l2
    have hd : (cs.map chiP).length < 100000 := by rw [List.length_map]; omega
    have hf := first_key (k := ky) (s := cs.length) (ρ := [some (.cell n), o1, some (.int (cs.length : Int)), some (.cell L), some (ip ky), o5]) (m := m2 ++ [.lst (cs.map chiP)]) (i := 4) (j := 2) rfl rfl
    generalize hkk : (if cs.length = 0 then [] else ky) = kk at hf
    have kk1 : kk.length ≤ 100 ∧ Byt kk := by
      subst hkk
      split
      · exact ⟨by simp, fun x hx => by simp at hx⟩
      · exact ⟨k1, k2⟩
    obtain ⟨cs', m4, p2, p4, e5, q1, q2, q3, q4⟩ := inner_loop hn k (cs ++ [(kk, v)]) m3 o1 (some (.int (cs.length : Int))) (some (ip ky)) o5 s2.2 l3 (by simp only [List.length_append, List.length_cons, List.length_nil]; omega)
    refine ⟨(kk, v) :: cs', m4, p2, p4, ?_, by rw [List.length_cons, q1], fun e he => ?_, fun c h0 hc => ?_, (s1.trans s2).trans q4⟩
    · rw [List.range'_succ, List.map_cons, forG_cons]
      simp only [Tg.put, List.set_cons_succ, List.set_cons_zero]
      have c1 : fCall (gd 1 f_key) (fCons (fVar 0) fNil) [some (.cell n), o1, some (.int (cs.length : Int)), some (.cell L), o4, o5] (m1 ++ [.lst (cs.map chiP)]) = .ok (ip ky) (m2 ++ [.lst (cs.map chiP)]) := call1 rfl e1
      rw [e_seq, e_asg, c1, o_ok]
      simp only [Tg.put, List.set_cons_succ, List.set_cons_zero]
      have c2 := drop_append (i := 3) (ρ := [some (.cell n), o1, some (.int (cs.length : Int)), some (.cell L), some (ip ky), o5]) rfl (mem1 l2) (tup2 hf ev) (mem1 l3) hd
      rw [nx_nx, c2]
      dsimp only
      rw [set1 l3]
      have : cs.map chiP ++ [.tup [ip kk, .int v]] = (cs ++ [(kk, v)]).map chiP := by rw [List.map_append]; rfl
      rw [this]
      rw [List.length_append, List.length_cons, List.length_nil, Nat.zero_add] at e5
      rw [e5, List.append_assoc]
      rfl
    · rcases List.mem_cons.mp he with rfl | he
      · exact ⟨kk1.1, kk1.2, v1, by omega⟩
      · exact q2 e he
    · simp at hc
      subst hc
      show kk = []
      rw [← hkk, if_pos h0]

end
/-! PZ6b -/
section
open PySem PySem.Spec PyProof.Rows
/-! PZ6b: page_k -/
theorem page_k {n : Nat} {m : M} (hs : StAt n m) : ∃ (p : Pg) (m' : M), f_page [.cell n] m = .ok (pgP p) m' ∧ p.Drawn ∧ Stp n m m' := by
  unfold f_page fnC fnF fb_page
  simp only [startP, List.map_cons, List.map_nil, List.length_cons, List.length_nil]
  rw [show (List.replicate (6 - (0 + 1)) (none : Option P)) = [none, none, none, none, none] from rfl]
  simp only [List.cons_append, List.nil_append]
  obtain ⟨r0, m1, e1, a1', b1, s1⟩ := next_g (ρ := [some (.cell n), none, none, none, none, none]) (fe := fC (.int 2)) 2 rfl rfl (Stp.refl hs) (by omega)
  have t : (fBl (fOp oEq (fCall (gd 2 f_next) (fCons (fVar 0) (fCons (fC (.int 2)) fNil))) (fC (.int 0)))) [some (.cell n), none, none, none, none, none] m = .ok (decide (r0 = 0)) m1 := by
    rw [e_bl, e_op, e1, b_ok, e_c, b_ok, eq_ii, b_ok]
  have hn1 : n < m1.length := s1.2.lt
  have fl : fLst true fNil [some (.cell n), none, none, none, none, none] m1 = .ok (.cell m1.length) (m1 ++ [.lst []]) := by simp [mkL_f, mkL_t, wipeP, mulOk, lw_l, lw_c, lv_l, lv_c, lv_x, sv_l, sv_c, sv_x, sv_t, lw_i, lw_s, lw_t, lv_s, lv_t, lv_i, lv_n, add_ii, add_ss, add_tt, add_ll, add_lc, add_cl, add_cc, sub_ii, plus_ii, mul_ii, mul_li, fdv_ii, mod_ii, pow_ii, neg_i, sh_i, sh_s, sh_t, sh_l, sh_n, sh_b, sh_c, eq_nn, ne_nn, eq_ni, ne_ni, eq_in, ne_in, eq_nb, ne_nb, eq_bn, ne_bn, eq_ns, ne_ns, eq_sn, ne_sn, eq_ii, ne_ii, eq_bb, ne_bb, eq_ss, ne_ss, eq_is, ne_is, eq_si, ne_si, eq_bs, ne_bs, eq_sb, ne_sb, isn_n, non_n, isn_i, non_i, isn_b, non_b, isn_s, non_s, isn_t, non_t, isn_l, non_l, isn_c, non_c, isn_x, non_x, tru_n, tru_b, tru_i, tru_t, tru_l, notv_b, ix_t, ix_s, ix_l, ix_x, ix_c, ixl_c, sl_t, sl_s, sl_l, sl_c, rev_l, rev_c, len_t, len_l, len_x, len_s, len_c, list_t, list_l, list_x, list_c, tuple_t, tuple_l, tuple_c, int_i, int_b, abs_i, ord_s, isi_n, isi_b, isi_i, isi_s, isi_t, isi_l, isi_c, kindc, max_ii, min_ii, app_c, ext_c, set_c, sidx_ss, cm_ii, cm_ile, cm_igt, cm_ige, isl_l, isl_c, isl_s, iss_s, iss_l, b_ok, b_st, b_ex, o_ok, o_st, o_ex, c_ok, c_st, c_ex, fin_rt, fin_nx, fin_st, nx_nx, nx_rt, nx_bk, nx_ct, nx_ex, nx_st, e_seq, e_var, e_c, e_op, e_un, e_nil, e_cons, e_call, e_tup, e_lst, e_otup, e_olst, e_gd, e_asg, e_drop, e_ret, e_retN, e_next, e_brk, e_cont, e_ifs, e_setS, e_aug, e_augS, e_tru, e_bl, e_and, e_or, e_not, e_andV, e_orV, e_notV, e_if, e_chain, e_nop, e_part, e_sl, e_iSeq, e_iR1, e_iR2, rngOk_of, rngOk2_of, e_for, e_lc, e_yes, e_mt, e_mt2, e_join, e_put, e_fits, Tg.put, TgL.puts]
  rw [e_seq, e_ifB t]
  by_cases hr : r0 = 0
  · rw [decide_eq_true hr, if_pos rfl, e_seq, e_asg, fl, o_ok]
    simp only [Tg.put, List.set_cons_succ, List.set_cons_zero]
    rw [nx_nx, e_seq, e_for]
    obtain ⟨q, m3, e3, b3, s3⟩ := iR_draw (ρ := [some (.cell n), some (.cell m1.length), none, none, none, none]) (fe := fC (.int 13)) 13 rfl rfl (Stp.refl (s1.2.app (l := [.lst []]))) (by omega)
    obtain ⟨m2, s2, rfl⟩ := Stp.split hn1 s3
    obtain ⟨es, m4, p2, e4, l4, g4, s4⟩ := leaf_loop (n := n) (L := m1.length) hn1 (rngP 0 q) [] m2 none none none none s2.2 s2.len (by rw [rngP_eq]; simp; omega)
    have lq : (rngP 0 q).length = q := by rw [rngP_eq, List.length_map, List.length_range']
    rw [e3, o_ok]
    dsimp only
    have e4' : forG _ _ [] _ _ (m2 ++ [.lst []]) = _ := e4
    rw [e4', nx_nx, List.nil_append]
    have l5 : m4.length = m1.length := by rw [s4.len, s2.len]
    have ss := (s1.trans s2).trans s4
    have tt : fCall oTuple (fCons (fVar 1) fNil) [some (.cell n), some (.cell m1.length), p2, none, none, none] (m4 ++ [.lst (es.map entP)]) = .ok (.tup (es.map entP)) (m4 ++ [.lst (es.map entP)]) := by
      have g := mem1 (c := .lst (es.map entP)) l5
      simp [mkL_f, mkL_t, wipeP, mulOk, lw_l, lw_c, lv_l, lv_c, lv_x, sv_l, sv_c, sv_x, sv_t, lw_i, lw_s, lw_t, lv_s, lv_t, lv_i, lv_n, add_ii, add_ss, add_tt, add_ll, add_lc, add_cl, add_cc, sub_ii, plus_ii, mul_ii, mul_li, fdv_ii, mod_ii, pow_ii, neg_i, sh_i, sh_s, sh_t, sh_l, sh_n, sh_b, sh_c, eq_nn, ne_nn, eq_ni, ne_ni, eq_in, ne_in, eq_nb, ne_nb, eq_bn, ne_bn, eq_ns, ne_ns, eq_sn, ne_sn, eq_ii, ne_ii, eq_bb, ne_bb, eq_ss, ne_ss, eq_is, ne_is, eq_si, ne_si, eq_bs, ne_bs, eq_sb, ne_sb, isn_n, non_n, isn_i, non_i, isn_b, non_b, isn_s, non_s, isn_t, non_t, isn_l, non_l, isn_c, non_c, isn_x, non_x, tru_n, tru_b, tru_i, tru_t, tru_l, notv_b, ix_t, ix_s, ix_l, ix_x, ix_c, ixl_c, sl_t, sl_s, sl_l, sl_c, rev_l, rev_c, len_t, len_l, len_x, len_s, len_c, list_t, list_l, list_x, list_c, tuple_t, tuple_l, tuple_c, int_i, int_b, abs_i, ord_s, isi_n, isi_b, isi_i, isi_s, isi_t, isi_l, isi_c, kindc, max_ii, min_ii, app_c, ext_c, set_c, sidx_ss, cm_ii, cm_ile, cm_igt, cm_ige, isl_l, isl_c, isl_s, iss_s, iss_l, b_ok, b_st, b_ex, o_ok, o_st, o_ex, c_ok, c_st, c_ex, fin_rt, fin_nx, fin_st, nx_nx, nx_rt, nx_bk, nx_ct, nx_ex, nx_st, e_seq, e_var, e_c, e_op, e_un, e_nil, e_cons, e_call, e_tup, e_lst, e_otup, e_olst, e_gd, e_asg, e_drop, e_ret, e_retN, e_next, e_brk, e_cont, e_ifs, e_setS, e_aug, e_augS, e_tru, e_bl, e_and, e_or, e_not, e_andV, e_orV, e_notV, e_if, e_chain, e_nop, e_part, e_sl, e_iSeq, e_iR1, e_iR2, rngOk_of, rngOk2_of, e_for, e_lc, e_yes, e_mt, e_mt2, e_join, e_put, e_fits, Tg.put, TgL.puts, g]
    refine ⟨.leaf es, m4, ?_, ⟨by omega, g4⟩, ss⟩
    have t2 := tup2 (fa := fC (.str ("leaf" : Str))) rfl tt
    rw [e_ret, t2, o_ok, nx_rt, fin_rt]
    have un : P.under m.length (.tup [.str "leaf", .tup (es.map entP)]) = true := by
      rw [un_tup, uns_cons, un_str, uns_cons, un_tup, uns_nil, uns_all fun x hx => ?_]
      · rfl
      · obtain ⟨e, _, rfl⟩ := List.mem_map.mp hx
        exact entP_under
    rw [ss.cut _ un, c_ok]
    rfl
  · rw [decide_eq_false hr, if_neg Bool.false_ne_true, e_next, nx_nx, e_seq, e_asg, fl, o_ok]
    simp only [Tg.put, List.set_cons_succ, List.set_cons_zero]
    rw [nx_nx, e_seq, e_for]
    obtain ⟨q, m3, e3, b3, s3⟩ := iR_draw (ρ := [some (.cell n), none, none, some (.cell m1.length), none, none]) (fe := fC (.int 21)) 21 rfl rfl (Stp.refl (s1.2.app (l := [.lst []]))) (by omega)
    obtain ⟨m2, s2, rfl⟩ := Stp.split hn1 s3
    obtain ⟨cs, m4, p2, p4, e4, l4, g4, z4, s4⟩ := inner_loop (n := n) (L := m1.length) hn1 q [] m2 none none none none s2.2 s2.len (by simp; omega)
    rw [e3, o_ok]
    dsimp only
    have e4' : forG _ _ [] ((List.range' 0 q).map fun i : Nat => .int (i : Int)) _ (m2 ++ [.lst []]) = _ := e4
    rw [rngP_eq, e4', nx_nx, List.nil_append]
    have l5 : m4.length = m1.length := by rw [s4.len, s2.len]
    have ss := (s1.trans s2).trans s4
    have tt : fCall oTuple (fCons (fVar 3) fNil) [some (.cell n), none, p2, some (.cell m1.length), p4, none] (m4 ++ [.lst (cs.map chiP)]) = .ok (.tup (cs.map chiP)) (m4 ++ [.lst (cs.map chiP)]) := by
      have g := mem1 (c := .lst (cs.map chiP)) l5
      simp [mkL_f, mkL_t, wipeP, mulOk, lw_l, lw_c, lv_l, lv_c, lv_x, sv_l, sv_c, sv_x, sv_t, lw_i, lw_s, lw_t, lv_s, lv_t, lv_i, lv_n, add_ii, add_ss, add_tt, add_ll, add_lc, add_cl, add_cc, sub_ii, plus_ii, mul_ii, mul_li, fdv_ii, mod_ii, pow_ii, neg_i, sh_i, sh_s, sh_t, sh_l, sh_n, sh_b, sh_c, eq_nn, ne_nn, eq_ni, ne_ni, eq_in, ne_in, eq_nb, ne_nb, eq_bn, ne_bn, eq_ns, ne_ns, eq_sn, ne_sn, eq_ii, ne_ii, eq_bb, ne_bb, eq_ss, ne_ss, eq_is, ne_is, eq_si, ne_si, eq_bs, ne_bs, eq_sb, ne_sb, isn_n, non_n, isn_i, non_i, isn_b, non_b, isn_s, non_s, isn_t, non_t, isn_l, non_l, isn_c, non_c, isn_x, non_x, tru_n, tru_b, tru_i, tru_t, tru_l, notv_b, ix_t, ix_s, ix_l, ix_x, ix_c, ixl_c, sl_t, sl_s, sl_l, sl_c, rev_l, rev_c, len_t, len_l, len_x, len_s, len_c, list_t, list_l, list_x, list_c, tuple_t, tuple_l, tuple_c, int_i, int_b, abs_i, ord_s, isi_n, isi_b, isi_i, isi_s, isi_t, isi_l, isi_c, kindc, max_ii, min_ii, app_c, ext_c, set_c, sidx_ss, cm_ii, cm_ile, cm_igt, cm_ige, isl_l, isl_c, isl_s, iss_s, iss_l, b_ok, b_st, b_ex, o_ok, o_st, o_ex, c_ok, c_st, c_ex, fin_rt, fin_nx, fin_st, nx_nx, nx_rt, nx_bk, nx_ct, nx_ex, nx_st, e_seq, e_var, e_c, e_op, e_un, e_nil, e_cons, e_call, e_tup, e_lst, e_otup, e_olst, e_gd, e_asg, e_drop, e_ret, e_retN, e_next, e_brk, e_cont, e_ifs, e_setS, e_aug, e_augS, e_tru, e_bl, e_and, e_or, e_not, e_andV, e_orV, e_notV, e_if, e_chain, e_nop, e_part, e_sl, e_iSeq, e_iR1, e_iR2, rngOk_of, rngOk2_of, e_for, e_lc, e_yes, e_mt, e_mt2, e_join, e_put, e_fits, Tg.put, TgL.puts, g]
    refine ⟨.inner cs, m4, ?_, ⟨by omega, fun c hc => g4 c hc, fun c hc => z4 c rfl hc⟩, ss⟩
    have t2 := tup2 (fa := fC (.str ("inner" : Str))) rfl tt
    rw [e_ret, t2, o_ok, fin_rt]
    have un : P.under m.length (.tup [.str "inner", .tup (cs.map chiP)]) = true := by
      rw [un_tup, uns_cons, un_str, uns_cons, un_tup, uns_nil, uns_all fun x hx => ?_]
      · rfl
      · obtain ⟨e, _, rfl⟩ := List.mem_map.mp hx
        exact chiP_under
    rw [ss.cut _ un, c_ok]
    rfl

end
/-! PZ7 -/
section
open PySem PySem.Spec PyProof.Rows
/-! PZ7: the law -/
def LRho (a0 : P) (ρ : Env) : Prop := ∃ o2 o3 o4 o5 o6 o7 o8 o9 o10, ρ = [some a0, some (.cell 0), o2, o3, o4, o5, o6, o7, o8, o9, o10]
theorem Pg.Drawn.law {p : Pg} (h : p.Drawn) : p.Law := by
  cases p with
  | leaf es => exact fun e he => decode_keyB (h.2 e he).2.2.2
  | inner cs =>
    intro i c hc
    cases i with
    | zero => exact .inl (h.2.2 c hc)
    | succ i => exact .inr (decide_eq_false (by omega))
theorem byt_flat {α : Type} {f : α → List Int} : ∀ {xs : List α}, (∀ x ∈ xs, Byt (f x)) → Byt (flatB f xs)
  | [], _ => fun x hx => by simp [flatB] at hx
  | x :: xs, h => fun y hy => by
    rw [flatB, List.mem_append] at hy
    rcases hy with hy | hy
    · exact h x List.mem_cons_self y hy
    · exact byt_flat (fun z hz => h z (List.mem_cons_of_mem _ hz)) y hy
theorem byt_cons {x : Int} {l : List Int} (hx : 0 ≤ x ∧ x < 256) (h : Byt l) : Byt (x :: l) := fun y hy => (List.mem_cons.mp hy).elim (fun e => e ▸ hx) (h y)
theorem byt_app {a b : List Int} (ha : Byt a) (hb : Byt b) : Byt (a ++ b) := fun y hy => (List.mem_append.mp hy).elim (ha y) (hb y)
theorem byt_nil : Byt [] := fun _ h => (List.not_mem_nil h).elim
theorem byt_zeros {n : Nat} : Byt (List.replicate n 0) := fun y hy => by rw [List.eq_of_mem_replicate hy]; omega
theorem byt_take {l : List Int} (h : Byt l) (n : Nat) : Byt (l.take n) := fun y hy => h y (List.mem_of_mem_take hy)
theorem byt_drop {l : List Int} (h : Byt l) (n : Nat) : Byt (l.drop n) := fun y hy => h y (List.mem_of_mem_drop hy)
theorem lenI_byt {α : Type} {l : List α} (h : l.length < 256) : 0 ≤ lenI l ∧ lenI l < 256 := by unfold lenI; omega
theorem Pg.Drawn.byt {p : Pg} {bs : List Int} (h : p.Drawn) (w : wr p = some bs) : Byt bs := by
  obtain ⟨h1, h2, h3⟩ := padB_some w
  rw [h2]
  refine byt_app ?_ byt_zeros
  cases p with
  | leaf es =>
    obtain ⟨q1, q2⟩ := h
    refine byt_cons (by omega) (byt_cons (lenI_byt (by omega)) (byt_flat fun e he => ?_))
    obtain ⟨k1, k2, k3, k4⟩ := q2 e he
    have kl := keyB_len k4
    exact byt_app (byt_cons (lenI_byt (by omega)) k2) (byt_cons (lenI_byt (by omega)) (keyB_byt k4))
  | inner cs =>
    obtain ⟨q1, q2, q3⟩ := h
    refine byt_cons (by omega) (byt_cons (lenI_byt (by omega)) (byt_flat fun e he => ?_))
    obtain ⟨k1, k2, k3, k4⟩ := q2 e he
    exact byt_cons (by omega) (byt_cons (by omega) (byt_cons (lenI_byt (by omega)) k2))
theorem sm_bl {n : Nat} {bs : List Int} (h : bs.length ≤ 100000) : Sm (n + 1) (blP bs) := .lst (by rw [List.length_map]; exact h) fun x hx => by
  obtain ⟨i, _, rfl⟩ := List.mem_map.mp hx
  exact .int _ _
theorem sm_ip {n : Nat} {bs : List Int} (h : bs.length ≤ 100000) : Sm (n + 1) (ip bs) := .tup (by rw [List.length_map]; exact h) fun x hx => by
  obtain ⟨i, _, rfl⟩ := List.mem_map.mp hx
  exact .int _ _
theorem sm_kp {n : Nat} (v : Kv) : Sm n (kp v) := by cases v <;> constructor
theorem sm_kps {n : Nat} {vs : List Kv} (h : vs.length ≤ 100000) : Sm (n + 1) (.tup (vs.map kp)) := .tup (by rw [List.length_map]; exact h) fun x hx => by
  obtain ⟨i, _, rfl⟩ := List.mem_map.mp hx
  exact sm_kp _
theorem sm_two {n : Nat} {a b : P} (ha : Sm n a) (hb : Sm n b) : Sm (n + 1) (.tup [a, b]) := .tup (by simp) fun x hx => by
  simp only [List.mem_cons, List.not_mem_nil, or_false] at hx
  rcases hx with rfl | rfl
  · exact ha
  · exact hb
theorem Pg.Drawn.sm {p : Pg} (h : p.Drawn) : Sm 5 (pgP p) := by
  cases p with
  | leaf es =>
    refine sm_two (.str _ _) (.tup (by rw [List.length_map]; have := h.1; omega) fun x hx => ?_)
    obtain ⟨e, he, rfl⟩ := List.mem_map.mp hx
    obtain ⟨k1, k2, k3, k4⟩ := h.2 e he
    exact sm_two (sm_ip (by omega)) (sm_kps (by omega))
  | inner cs =>
    refine sm_two (.str _ _) (.tup (by rw [List.length_map]; have := h.1; omega) fun x hx => ?_)
    obtain ⟨e, he, rfl⟩ := List.mem_map.mp hx
    obtain ⟨k1, k2, k3, k4⟩ := h.2.1 e he
    exact sm_two (sm_ip (by omega)) (.int _ _)
theorem not_same {ρ : Env} {m m1 m2 : M} {fa fb : FE} {d : P} (ha : fa ρ m = .ok d m1) (hb : fb ρ m1 = .ok d m2) (hs : Sm 5 d) : fIfS (fNot (fTru (fCall (gd 2 (f_same 6)) (fCons fa (fCons fb fNil))))) (fRet (fC (.bl false))) fNext ρ m = .nx ρ m2 := by
  have : (fNot (fTru (fCall (gd 2 (f_same 6)) (fCons fa (fCons fb fNil))))) ρ m = .ok false m2 := by
    rw [e_not, e_tru, e_call, e_cons, ha, b_ok, e_cons, hb, b_ok, e_nil, b_ok, b_ok, b_ok, e_gd, if_pos (show [d, d].length = 2 from rfl), same_refl 5 m2 hs, b_ok, tru_b]
    dsimp only
    rw [b_ok]
    rfl
  rw [e_ifF this, e_next]
theorem byte_pick {n : Nat} {m m0 : M} {ρ : Env} {i : Nat} (L : Int) (hL : 0 < L ∧ L ≤ 256) (h1 : ρ[i]? = some (some (.cell n))) (s : Stp n m0 m) : ∃ b m', (fOp oIx (fLst false (fCons (fCall (gd 2 f_next) (fCons (fVar i) (fCons (fC (.int 256)) fNil))) (fCons (fCall (gd 2 f_next) (fCons (fVar i) (fCons (fC (.int L)) fNil))) fNil))) (fCall (gd 2 f_next) (fCons (fVar i) (fCons (fC (.int 2)) fNil)))) ρ m = .ok (.int b) m' ∧ (0 ≤ b ∧ b < 256) ∧ Stp n m0 m' := by
  obtain ⟨r, m1, e1, a1, b1, s1⟩ := draw 256 s (by omega)
  obtain ⟨r2, m2, e2, a2, b2, s2⟩ := draw L s1 (by omega)
  obtain ⟨r3, m3, e3, a3, b3, s3⟩ := draw 2 s2 (by omega)
  have hr : r3 = 0 ∨ r3 = 1 := by omega
  rcases hr with rfl | rfl
  · exact ⟨r, m3, by simp [mkL_f, mkL_t, wipeP, mulOk, lw_l, lw_c, lv_l, lv_c, lv_x, sv_l, sv_c, sv_x, sv_t, lw_i, lw_s, lw_t, lv_s, lv_t, lv_i, lv_n, add_ii, add_ss, add_tt, add_ll, add_lc, add_cl, add_cc, sub_ii, plus_ii, mul_ii, mul_li, fdv_ii, mod_ii, pow_ii, neg_i, sh_i, sh_s, sh_t, sh_l, sh_n, sh_b, sh_c, eq_nn, ne_nn, eq_ni, ne_ni, eq_in, ne_in, eq_nb, ne_nb, eq_bn, ne_bn, eq_ns, ne_ns, eq_sn, ne_sn, eq_ii, ne_ii, eq_bb, ne_bb, eq_ss, ne_ss, eq_is, ne_is, eq_si, ne_si, eq_bs, ne_bs, eq_sb, ne_sb, isn_n, non_n, isn_i, non_i, isn_b, non_b, isn_s, non_s, isn_t, non_t, isn_l, non_l, isn_c, non_c, isn_x, non_x, tru_n, tru_b, tru_i, tru_t, tru_l, notv_b, ix_t, ix_s, ix_l, ix_x, ix_c, ixl_c, sl_t, sl_s, sl_l, sl_c, rev_l, rev_c, len_t, len_l, len_x, len_s, len_c, list_t, list_l, list_x, list_c, tuple_t, tuple_l, tuple_c, int_i, int_b, abs_i, ord_s, isi_n, isi_b, isi_i, isi_s, isi_t, isi_l, isi_c, kindc, max_ii, min_ii, app_c, ext_c, set_c, sidx_ss, cm_ii, cm_ile, cm_igt, cm_ige, isl_l, isl_c, isl_s, iss_s, iss_l, b_ok, b_st, b_ex, o_ok, o_st, o_ex, c_ok, c_st, c_ex, fin_rt, fin_nx, fin_st, nx_nx, nx_rt, nx_bk, nx_ct, nx_ex, nx_st, e_seq, e_var, e_c, e_op, e_un, e_nil, e_cons, e_call, e_tup, e_lst, e_otup, e_olst, e_gd, e_asg, e_drop, e_ret, e_retN, e_next, e_brk, e_cont, e_ifs, e_setS, e_aug, e_augS, e_tru, e_bl, e_and, e_or, e_not, e_andV, e_orV, e_notV, e_if, e_chain, e_nop, e_part, e_sl, e_iSeq, e_iR1, e_iR2, rngOk_of, rngOk2_of, e_for, e_lc, e_yes, e_mt, e_mt2, e_join, e_put, e_fits, Tg.put, TgL.puts, h1, e1, e2, e3, atI_0], by omega, s3⟩
  · exact ⟨r2, m3, by simp [mkL_f, mkL_t, wipeP, mulOk, lw_l, lw_c, lv_l, lv_c, lv_x, sv_l, sv_c, sv_x, sv_t, lw_i, lw_s, lw_t, lv_s, lv_t, lv_i, lv_n, add_ii, add_ss, add_tt, add_ll, add_lc, add_cl, add_cc, sub_ii, plus_ii, mul_ii, mul_li, fdv_ii, mod_ii, pow_ii, neg_i, sh_i, sh_s, sh_t, sh_l, sh_n, sh_b, sh_c, eq_nn, ne_nn, eq_ni, ne_ni, eq_in, ne_in, eq_nb, ne_nb, eq_bn, ne_bn, eq_ns, ne_ns, eq_sn, ne_sn, eq_ii, ne_ii, eq_bb, ne_bb, eq_ss, ne_ss, eq_is, ne_is, eq_si, ne_si, eq_bs, ne_bs, eq_sb, ne_sb, isn_n, non_n, isn_i, non_i, isn_b, non_b, isn_s, non_s, isn_t, non_t, isn_l, non_l, isn_c, non_c, isn_x, non_x, tru_n, tru_b, tru_i, tru_t, tru_l, notv_b, ix_t, ix_s, ix_l, ix_x, ix_c, ixl_c, sl_t, sl_s, sl_l, sl_c, rev_l, rev_c, len_t, len_l, len_x, len_s, len_c, list_t, list_l, list_x, list_c, tuple_t, tuple_l, tuple_c, int_i, int_b, abs_i, ord_s, isi_n, isi_b, isi_i, isi_s, isi_t, isi_l, isi_c, kindc, max_ii, min_ii, app_c, ext_c, set_c, sidx_ss, cm_ii, cm_ile, cm_igt, cm_ige, isl_l, isl_c, isl_s, iss_s, iss_l, b_ok, b_st, b_ex, o_ok, o_st, o_ex, c_ok, c_st, c_ex, fin_rt, fin_nx, fin_st, nx_nx, nx_rt, nx_bk, nx_ct, nx_ex, nx_st, e_seq, e_var, e_c, e_op, e_un, e_nil, e_cons, e_call, e_tup, e_lst, e_otup, e_olst, e_gd, e_asg, e_drop, e_ret, e_retN, e_next, e_brk, e_cont, e_ifs, e_setS, e_aug, e_augS, e_tru, e_bl, e_and, e_or, e_not, e_andV, e_orV, e_notV, e_if, e_chain, e_nop, e_part, e_sl, e_iSeq, e_iR1, e_iR2, rngOk_of, rngOk2_of, e_for, e_lc, e_yes, e_mt, e_mt2, e_join, e_put, e_fits, Tg.put, TgL.puts, h1, e1, e2, e3, atI_1], by omega, s3⟩
theorem sl_to (l : List Int) (a : Nat) (m : M) : oSl false (blP l) none (some (a : Int)) m = .ok (blP (l.take a)) m := by
  have : cutL (l.map P.int) none (some (a : Int)) = (l.take a).map P.int := by
    rw [List.map_take]
    unfold cutL HT.sIx
    simp only [show ¬ ((a : Int) < 0) by omega, if_false, List.drop_zero, Nat.sub_zero]
    have h1 : ((a : Int)).toNat = a := by omega
    rw [h1]
    by_cases h : a ≤ (l.map P.int).length
    · rw [Nat.min_eq_left h]
    · rw [Nat.min_eq_right (by omega), List.take_of_length_le (Nat.le_refl _), List.take_of_length_le (by omega)]
  rw [blP, sl_l, this, mkL_f]; rfl
theorem sl_fr (l : List Int) (a : Nat) (m : M) : oSl false (blP l) (some (a : Int)) none m = .ok (blP (l.drop a)) m := by
  rw [blP, sl_l, cut_from', mkL_f, ← List.map_drop]; rfl
theorem sl_bo (l : List Int) (a b : Nat) (m : M) : ∃ k, oSl false (blP l) (some (a : Int)) (some (b : Int)) m = .ok (blP ((l.drop k).take (min b l.length - k))) m := by
  refine ⟨min a l.length, ?_⟩
  have : cutL (l.map P.int) (some (a : Int)) (some (b : Int)) = ((l.drop (min a l.length)).take (min b l.length - min a l.length)).map P.int := by
    rw [List.map_take, List.map_drop]
    unfold cutL HT.sIx
    simp only [show ¬ ((a : Int) < 0) by omega, show ¬ ((b : Int) < 0) by omega, if_false, List.length_map, Int.toNat_natCast]
  rw [blP, sl_l, this, mkL_f]; rfl
theorem add_bl {a b : List Int} (m : M) (h : a.length + b.length ≤ 100000) : oAdd false (blP a) (blP b) m = .ok (blP (a ++ b)) m := by
  unfold blP
  rw [addL (by simpa using h), List.map_append]
def Okb (l : List Int) : Prop := l.length ≤ 1000 ∧ Byt l
theorem tried_loop {a0 : P} {m : M} : ∀ (xs : List (List Int)) (ρ : Env), (∀ x ∈ xs, Okb x) → LRho a0 ρ → ∃ ρ', forG (.name 8) fb_law_1 [] (xs.map blP) ρ m = .nx ρ' m ∧ LRho a0 ρ'
  | [], ρ, _, h => ⟨ρ, forG_nil, h⟩
  | x :: xs, ρ, hx, h => by
    obtain ⟨o2, o3, o4, o5, o6, o7, o8, o9, o10, rfl⟩ := h
    obtain ⟨q1, q2⟩ := hx x List.mem_cons_self
    obtain ⟨ρ', e, h'⟩ := tried_loop (a0 := a0) (m := m) xs [some a0, some (.cell 0), o2, o3, o4, o5, o6, o7, some (blP x), o9, o10] (fun y hy => hx y (List.mem_cons_of_mem _ hy)) ⟨_, _, _, _, _, _, _, _, _, rfl⟩
    refine ⟨ρ', ?_, h'⟩
    rw [List.map_cons, forG_cons]
    simp only [Tg.put, List.set_cons_succ, List.set_cons_zero]
    have t : (fNot (fTru (fCall (gd 1 f_tried) (fCons (fVar 8) fNil)))) [some a0, some (.cell 0), o2, o3, o4, o5, o6, o7, some (blP x), o9, o10] m = .ok false m := by
      have c1 : fCall (gd 1 f_tried) (fCons (fVar 8) fNil) [some a0, some (.cell 0), o2, o3, o4, o5, o6, o7, some (blP x), o9, o10] m = .ok (.bl true) m := call1 rfl (tried_k q1 q2 m)
      rw [e_not, e_tru, c1, b_ok, tru_b]
      dsimp only
      rw [b_ok]
      rfl
    unfold fb_law_1
    rw [e_ifF t, e_next]
    exact e
theorem lst_of {ρ : Env} {m : M} {fl : FA} {xs : List P} (h : fl ρ m = .ok xs m) (hl : xs.length ≤ 100000) : fLst false fl ρ m = .ok (.lst xs) m := by
  rw [e_lst, h, b_ok, e_olst, if_pos (fits_le hl), mkL_f]
theorem cons_of {ρ : Env} {m m1 m2 : M} {fa : FE} {fl : FA} {x : P} {xs : List P} (ha : fa ρ m = .ok x m1) (h : fl ρ m1 = .ok xs m2) : fCons fa fl ρ m = .ok (x :: xs) m2 := by
  rw [e_cons, ha, b_ok, h, b_ok]
theorem op_of {ρ : Env} {m m1 m2 m3 : M} {o : P → P → M → Res P} {fa fb : FE} {a b c : P} (ha : fa ρ m = .ok a m1) (hb : fb ρ m1 = .ok b m2) (ho : o a b m2 = .ok c m3) : fOp o fa fb ρ m = .ok c m3 := by
  rw [e_op, ha, b_ok, hb, b_ok, ho]
theorem slT {ρ : Env} {m : M} {fe fa : FE} {l : List Int} {a : Nat} (he : fe ρ m = .ok (blP l) m) (ha : fa ρ m = .ok (.int (a : Int)) m) : fSl false fe fNoPart (fPart fa) ρ m = .ok (blP (l.take a)) m := by
  rw [e_sl, he, b_ok, e_nop, b_ok, e_part, ha, b_ok, b_ok, sl_to]
theorem slF {ρ : Env} {m : M} {fe fa : FE} {l : List Int} {a : Nat} (he : fe ρ m = .ok (blP l) m) (ha : fa ρ m = .ok (.int (a : Int)) m) : fSl false fe (fPart fa) fNoPart ρ m = .ok (blP (l.drop a)) m := by
  rw [e_sl, he, b_ok, e_part, ha, b_ok, b_ok, e_nop, b_ok, sl_fr]
theorem slB {ρ : Env} {m : M} {fe fa fb : FE} {l : List Int} {a b : Nat} (he : fe ρ m = .ok (blP l) m) (ha : fa ρ m = .ok (.int (a : Int)) m) (hb : fb ρ m = .ok (.int (b : Int)) m) : ∃ k, fSl false fe (fPart fa) (fPart fb) ρ m = .ok (blP ((l.drop k).take (min b l.length - k))) m := by
  obtain ⟨k, e⟩ := sl_bo l a b m
  refine ⟨k, ?_⟩
  rw [e_sl, he, b_ok, e_part, ha, b_ok, b_ok, e_part, hb, b_ok, b_ok, e]
theorem bl_one {ρ : Env} {m : M} {fa : FE} {i : Int} (h : fa ρ m = .ok (.int i) m) : fLst false (fCons fa fNil) ρ m = .ok (blP [i]) m := lst_of (cons_of h rfl) (by simp)
theorem bl_add {ρ : Env} {m : M} {fa fb : FE} {a b : List Int} (ha : fa ρ m = .ok (blP a) m) (hb : fb ρ m = .ok (blP b) m) (h : a.length + b.length ≤ 100000) : fOp (oAdd false) fa fb ρ m = .ok (blP (a ++ b)) m := op_of ha hb (add_bl m h)
theorem sm_opt {bs : Option (List Int)} (h : ∀ b, bs = some b → b.length ≤ 100000) : Sm 5 (optP blP bs) := by
  cases bs with
  | none => exact .non _
  | some b => exact sm_bl (h b rfl)
theorem law_turn {m : M} (hs : StAt 0 m) (a0 x : P) {ρ : Env} (hρ : LRho a0 ρ) : ∃ ρ1, (Tg.name 2).put x ρ = some ρ1 ∧ ∃ ρ2 m2, fb_law_2 ρ1 m = .nx ρ2 m2 ∧ Stp 0 m m2 ∧ LRho a0 ρ2 := by
  obtain ⟨o2, o3, o4, o5, o6, o7, o8, o9, o10, rfl⟩ := hρ
  refine ⟨[some a0, some (.cell 0), some x, o3, o4, o5, o6, o7, o8, o9, o10], rfl, ?_⟩
  obtain ⟨p, m1, e1, d1, s1⟩ := page_k hs
  unfold fb_law_2
  have c1 : fCall (gd 1 f_page) (fCons (fVar 1) fNil) [some a0, some (.cell 0), some x, o3, o4, o5, o6, o7, o8, o9, o10] m = .ok (pgP p) m1 := call1 rfl e1
  rw [e_seq, e_asg, c1, o_ok]
  simp only [Tg.put, List.set_cons_succ, List.set_cons_zero]
  have c2 : fCall (gd 1 f_page_bytes) (fCons (fVar 3) fNil) [some a0, some (.cell 0), some x, some (pgP p), o4, o5, o6, o7, o8, o9, o10] m1 = .ok (optP blP (wr p)) m1 := call1 rfl (page_bytes_k p d1.small m1)
  rw [nx_nx, e_seq, e_asg, c2, o_ok]
  simp only [Tg.put, List.set_cons_succ, List.set_cons_zero]
  have hlen : ∀ b, wr p = some b → b.length = 256 := fun b h => (padB_some h).2.2
  have c3 := not_same (ρ := [some a0, some (.cell 0), some x, some (pgP p), some (optP blP (wr p)), o5, o6, o7, o8, o9, o10]) (m := m1) (fa := fCall (gd 1 f_write_page) (fCons (fVar 3) fNil)) (fb := fVar 4) (call1 rfl (write_page_k p d1.small m1)) rfl (sm_opt fun b h => by rw [hlen b h]; decide)
  rw [nx_nx, e_seq, c3, nx_nx]
  cases hw : wr p with
  | none =>
    refine ⟨[some a0, some (.cell 0), some x, some (pgP p), some .non, o5, o6, o7, o8, o9, o10], m1, ?_, s1, _, _, _, _, _, _, _, _, _, rfl⟩
    have c5 : (fBl (fOp oNotN (fVar 4) (fC .non))) [some a0, some (.cell 0), some x, some (pgP p), some .non, o5, o6, o7, o8, o9, o10] m1 = .ok false m1 := by simp [mkL_f, mkL_t, wipeP, mulOk, lw_l, lw_c, lv_l, lv_c, lv_x, sv_l, sv_c, sv_x, sv_t, lw_i, lw_s, lw_t, lv_s, lv_t, lv_i, lv_n, add_ii, add_ss, add_tt, add_ll, add_lc, add_cl, add_cc, sub_ii, plus_ii, mul_ii, mul_li, fdv_ii, mod_ii, pow_ii, neg_i, sh_i, sh_s, sh_t, sh_l, sh_n, sh_b, sh_c, eq_nn, ne_nn, eq_ni, ne_ni, eq_in, ne_in, eq_nb, ne_nb, eq_bn, ne_bn, eq_ns, ne_ns, eq_sn, ne_sn, eq_ii, ne_ii, eq_bb, ne_bb, eq_ss, ne_ss, eq_is, ne_is, eq_si, ne_si, eq_bs, ne_bs, eq_sb, ne_sb, isn_n, non_n, isn_i, non_i, isn_b, non_b, isn_s, non_s, isn_t, non_t, isn_l, non_l, isn_c, non_c, isn_x, non_x, tru_n, tru_b, tru_i, tru_t, tru_l, notv_b, ix_t, ix_s, ix_l, ix_x, ix_c, ixl_c, sl_t, sl_s, sl_l, sl_c, rev_l, rev_c, len_t, len_l, len_x, len_s, len_c, list_t, list_l, list_x, list_c, tuple_t, tuple_l, tuple_c, int_i, int_b, abs_i, ord_s, isi_n, isi_b, isi_i, isi_s, isi_t, isi_l, isi_c, kindc, max_ii, min_ii, app_c, ext_c, set_c, sidx_ss, cm_ii, cm_ile, cm_igt, cm_ige, isl_l, isl_c, isl_s, iss_s, iss_l, b_ok, b_st, b_ex, o_ok, o_st, o_ex, c_ok, c_st, c_ex, fin_rt, fin_nx, fin_st, nx_nx, nx_rt, nx_bk, nx_ct, nx_ex, nx_st, e_seq, e_var, e_c, e_op, e_un, e_nil, e_cons, e_call, e_tup, e_lst, e_otup, e_olst, e_gd, e_asg, e_drop, e_ret, e_retN, e_next, e_brk, e_cont, e_ifs, e_setS, e_aug, e_augS, e_tru, e_bl, e_and, e_or, e_not, e_andV, e_orV, e_notV, e_if, e_chain, e_nop, e_part, e_sl, e_iSeq, e_iR1, e_iR2, rngOk_of, rngOk2_of, e_for, e_lc, e_yes, e_mt, e_mt2, e_join, e_put, e_fits, Tg.put, TgL.puts]
    rw [show optP blP none = .non from rfl, e_ifF c5, e_next]
  | some bs =>
    have hb := hlen bs hw
    have byt := d1.byt hw
    have hr := read_page_k (bs := bs) (by omega) byt m1
    rw [parse_wr d1.law hw] at hr
    have hr : f_read_page [blP bs] m1 = .ok (pgP p) m1 := hr
    rw [show optP blP (some bs) = blP bs from rfl]
    have hl : (fCall (oList false) (fCons (fVar 4) fNil)) [some a0, some (.cell 0), some x, some (pgP p), some (blP bs), o5, o6, o7, o8, o9, o10] m1 = .ok (blP bs) m1 := by
      simp [mkL_f, mkL_t, wipeP, mulOk, lw_l, lw_c, lv_l, lv_c, lv_x, sv_l, sv_c, sv_x, sv_t, lw_i, lw_s, lw_t, lv_s, lv_t, lv_i, lv_n, add_ii, add_ss, add_tt, add_ll, add_lc, add_cl, add_cc, sub_ii, plus_ii, mul_ii, mul_li, fdv_ii, mod_ii, pow_ii, neg_i, sh_i, sh_s, sh_t, sh_l, sh_n, sh_b, sh_c, eq_nn, ne_nn, eq_ni, ne_ni, eq_in, ne_in, eq_nb, ne_nb, eq_bn, ne_bn, eq_ns, ne_ns, eq_sn, ne_sn, eq_ii, ne_ii, eq_bb, ne_bb, eq_ss, ne_ss, eq_is, ne_is, eq_si, ne_si, eq_bs, ne_bs, eq_sb, ne_sb, isn_n, non_n, isn_i, non_i, isn_b, non_b, isn_s, non_s, isn_t, non_t, isn_l, non_l, isn_c, non_c, isn_x, non_x, tru_n, tru_b, tru_i, tru_t, tru_l, notv_b, ix_t, ix_s, ix_l, ix_x, ix_c, ixl_c, sl_t, sl_s, sl_l, sl_c, rev_l, rev_c, len_t, len_l, len_x, len_s, len_c, list_t, list_l, list_x, list_c, tuple_t, tuple_l, tuple_c, int_i, int_b, abs_i, ord_s, isi_n, isi_b, isi_i, isi_s, isi_t, isi_l, isi_c, kindc, max_ii, min_ii, app_c, ext_c, set_c, sidx_ss, cm_ii, cm_ile, cm_igt, cm_ige, isl_l, isl_c, isl_s, iss_s, iss_l, b_ok, b_st, b_ex, o_ok, o_st, o_ex, c_ok, c_st, c_ex, fin_rt, fin_nx, fin_st, nx_nx, nx_rt, nx_bk, nx_ct, nx_ex, nx_st, e_seq, e_var, e_c, e_op, e_un, e_nil, e_cons, e_call, e_tup, e_lst, e_otup, e_olst, e_gd, e_asg, e_drop, e_ret, e_retN, e_next, e_brk, e_cont, e_ifs, e_setS, e_aug, e_augS, e_tru, e_bl, e_and, e_or, e_not, e_andV, e_orV, e_notV, e_if, e_chain, e_nop, e_part, e_sl, e_iSeq, e_iR1, e_iR2, rngOk_of, rngOk2_of, e_for, e_lc, e_yes, e_mt, e_mt2, e_join, e_put, e_fits, Tg.put, TgL.puts, blP, hb]
    have c4 := not_same (ρ := [some a0, some (.cell 0), some x, some (pgP p), some (blP bs), o5, o6, o7, o8, o9, o10]) (m := m1) (fb := fVar 3) (call1 hl hr) rfl d1.sm
    have c5 : (fBl (fOp oNotN (fVar 4) (fC .non))) [some a0, some (.cell 0), some x, some (pgP p), some (blP bs), o5, o6, o7, o8, o9, o10] m1 = .ok true m1 := by simp [mkL_f, mkL_t, wipeP, mulOk, lw_l, lw_c, lv_l, lv_c, lv_x, sv_l, sv_c, sv_x, sv_t, lw_i, lw_s, lw_t, lv_s, lv_t, lv_i, lv_n, add_ii, add_ss, add_tt, add_ll, add_lc, add_cl, add_cc, sub_ii, plus_ii, mul_ii, mul_li, fdv_ii, mod_ii, pow_ii, neg_i, sh_i, sh_s, sh_t, sh_l, sh_n, sh_b, sh_c, eq_nn, ne_nn, eq_ni, ne_ni, eq_in, ne_in, eq_nb, ne_nb, eq_bn, ne_bn, eq_ns, ne_ns, eq_sn, ne_sn, eq_ii, ne_ii, eq_bb, ne_bb, eq_ss, ne_ss, eq_is, ne_is, eq_si, ne_si, eq_bs, ne_bs, eq_sb, ne_sb, isn_n, non_n, isn_i, non_i, isn_b, non_b, isn_s, non_s, isn_t, non_t, isn_l, non_l, isn_c, non_c, isn_x, non_x, tru_n, tru_b, tru_i, tru_t, tru_l, notv_b, ix_t, ix_s, ix_l, ix_x, ix_c, ixl_c, sl_t, sl_s, sl_l, sl_c, rev_l, rev_c, len_t, len_l, len_x, len_s, len_c, list_t, list_l, list_x, list_c, tuple_t, tuple_l, tuple_c, int_i, int_b, abs_i, ord_s, isi_n, isi_b, isi_i, isi_s, isi_t, isi_l, isi_c, kindc, max_ii, min_ii, app_c, ext_c, set_c, sidx_ss, cm_ii, cm_ile, cm_igt, cm_ige, isl_l, isl_c, isl_s, iss_s, iss_l, b_ok, b_st, b_ex, o_ok, o_st, o_ex, c_ok, c_st, c_ex, fin_rt, fin_nx, fin_st, nx_nx, nx_rt, nx_bk, nx_ct, nx_ex, nx_st, e_seq, e_var, e_c, e_op, e_un, e_nil, e_cons, e_call, e_tup, e_lst, e_otup, e_olst, e_gd, e_asg, e_drop, e_ret, e_retN, e_next, e_brk, e_cont, e_ifs, e_setS, e_aug, e_augS, e_tru, e_bl, e_and, e_or, e_not, e_andV, e_orV, e_notV, e_if, e_chain, e_nop, e_part, e_sl, e_iSeq, e_iR1, e_iR2, rngOk_of, rngOk2_of, e_for, e_lc, e_yes, e_mt, e_mt2, e_join, e_put, e_fits, Tg.put, TgL.puts, blP]
    rw [e_ifT c5, e_seq, c4, nx_nx]
    obtain ⟨b, mb, eb, hbb, tb⟩ := pick2 (i := 1) (ρ := [some a0, some (.cell 0), some x, some (pgP p), some (blP bs), o5, o6, o7, o8, o9, o10]) 12 256 rfl s1
    obtain ⟨v, mv, ev, v1, v2, tv⟩ := next_i (i := 1) (ρ := [some a0, some (.cell 0), some x, some (pgP p), some (blP bs), o5, o6, o7, o8, o9, o10]) b rfl eb tb (by omega)
    obtain ⟨a, rfl⟩ : ∃ a : Nat, v = a := ⟨v.toNat, by omega⟩
    rw [e_seq, e_asg, ev, o_ok]
    simp only [Tg.put, List.set_cons_succ, List.set_cons_zero]
    obtain ⟨c, m2, ec, hc, s2⟩ := byte_pick (i := 1) (ρ := [some a0, some (.cell 0), some x, some (pgP p), some (blP bs), some (.int (a : Int)), o6, o7, o8, o9, o10]) 4 (by omega) rfl tv
    rw [nx_nx, e_seq, e_asg, ec, o_ok]
    simp only [Tg.put, List.set_cons_succ, List.set_cons_zero]
    rw [nx_nx, e_seq, e_asg]
    generalize hρ2 : ([some a0, some (.cell 0), some x, some (pgP p), some (blP bs), some (.int (a : Int)), some (.int c), o7, o8, o9, o10] : Env) = r2
    have g4 : fVar 4 r2 m2 = .ok (blP bs) m2 := by subst hρ2; rfl
    have g5 : fVar 5 r2 m2 = .ok (.int (a : Int)) m2 := by subst hρ2; rfl
    have g6 : fVar 6 r2 m2 = .ok (.int c) m2 := by subst hρ2; rfl
    have g51 : fOp (oAdd false) (fVar 5) (fC (.int 1)) r2 m2 = .ok (.int ((a + 1 : Nat) : Int)) m2 := op_of g5 rfl (by rw [add_ii]; rfl)
    have t1 := slT g4 g5
    have t2 := slF g4 g51
    have t3 := bl_one g6
    have z1 : fLst false (fCons (fC (.int 0)) fNil) r2 m2 = .ok (blP [0]) m2 := bl_one rfl
    obtain ⟨k, t4⟩ := slB (b := 255) g4 g5 (show fC (.int 255) r2 m2 = _ from rfl)
    have w1 := bl_add (bl_add t1 t3 (by simp; omega)) t2 (by simp; omega)
    have w2 := bl_add (bl_add t1 t2 (by simp; omega)) z1 (by simp; omega)
    have w3 := bl_add (bl_add t1 t3 (by simp; omega)) t4 (by simp; omega)
    have w4 := lst_of (cons_of w1 (cons_of w2 (cons_of w3 (fl := fNil) (m2 := m2) rfl))) (by simp)
    rw [w4, o_ok]
    subst hρ2
    simp only [Tg.put, List.set_cons_succ, List.set_cons_zero]
    rw [nx_nx, e_for, e_iSeq]
    generalize hρ3 : ([some a0, some (.cell 0), some x, some (pgP p), some (blP bs), some (.int (a : Int)), some (.int c), some (.lst [blP (List.take a bs ++ [c] ++ List.drop (a + 1) bs), blP (List.take a bs ++ List.drop (a + 1) bs ++ [0]), blP (List.take a bs ++ [c] ++ List.take (min 255 bs.length - k) (List.drop k bs))]), o8, o9, o10] : Env) = r3
    have h4 : fVar 4 r3 m2 = .ok (blP bs) m2 := by subst hρ3; rfl
    have h6 : fVar 6 r3 m2 = .ok (.int c) m2 := by subst hρ3; rfl
    have h7 : fVar 7 r3 m2 = .ok (.lst [blP (List.take a bs ++ [c] ++ List.drop (a + 1) bs), blP (List.take a bs ++ List.drop (a + 1) bs ++ [0]), blP (List.take a bs ++ [c] ++ List.take (min 255 bs.length - k) (List.drop k bs))]) m2 := by subst hρ3; rfl
    have z2 : fLst false (fCons (fC (.int 0)) fNil) r3 m2 = .ok (blP [0]) m2 := bl_one rfl
    have u1 := bl_add h4 z2 (by simp; omega)
    have u2 : fSl false (fVar 4) fNoPart (fPart (fC (.int 255))) r3 m2 = .ok (blP (bs.take 255)) m2 := slT (a := 255) h4 rfl
    have u3 : fOp (oAdd false) (fC (.int 1)) (fOp oMod (fVar 6) (fC (.int 255))) r3 m2 = .ok (.int (1 + c % 255)) m2 := op_of rfl (op_of h6 rfl (by rw [mod_ii, if_pos (by decide)])) (by rw [add_ii])
    have u4 := bl_add u2 (bl_one u3) (by simp; omega)
    have u5 : fLst false fNil r3 m2 = .ok (blP []) m2 := lst_of rfl (by simp)
    have u6 := lst_of (cons_of u1 (cons_of u2 (cons_of u4 (cons_of u5 (fl := fNil) (m2 := m2) rfl)))) (by simp)
    have u7 := op_of (o := oAdd false) h7 u6 (addL (by simp))
    rw [u7, b_ok]
    dsimp only
    rw [o_ok]
    dsimp only
    obtain ⟨ρ', e, hρ'⟩ := tried_loop (a0 := a0) (m := m2) [List.take a bs ++ [c] ++ List.drop (a + 1) bs, List.take a bs ++ List.drop (a + 1) bs ++ [0], List.take a bs ++ [c] ++ List.take (min 255 bs.length - k) (List.drop k bs), bs ++ [0], bs.take 255, bs.take 255 ++ [1 + c % 255], []] r3 (fun y hy => by
      have q1 : Byt [c] := byt_cons hc byt_nil
      have q0 : Byt [0] := byt_cons (by omega) byt_nil
      simp only [List.mem_cons, List.not_mem_nil, or_false] at hy
      rcases hy with rfl | rfl | rfl | rfl | rfl | rfl | rfl
      · exact ⟨by simp; omega, byt_app (byt_app (byt_take byt a) q1) (byt_drop byt _)⟩
      · exact ⟨by simp; omega, byt_app (byt_app (byt_take byt a) (byt_drop byt _)) q0⟩
      · exact ⟨by simp; omega, byt_app (byt_app (byt_take byt a) q1) (byt_take (byt_drop byt _) _)⟩
      · exact ⟨by simp; omega, byt_app byt q0⟩
      · exact ⟨by simp; omega, byt_take byt _⟩
      · exact ⟨by simp; omega, byt_app (byt_take byt _) (byt_cons (by omega) byt_nil)⟩
      · exact ⟨by simp, byt_nil⟩) (by subst hρ3; exact ⟨_, _, _, _, _, _, _, _, _, rfl⟩)
    exact ⟨ρ', m2, e, s2, hρ'⟩
theorem law_draws {m : M} (hs : StAt 0 m) {a0 : P} {ρ : Env} (hρ : LRho a0 ρ) : ∃ D m', (fAsg (.name 9) (fLc false (iR1 (fCons (fCall (gd 2 f_next) (fCons (fVar 1) (fCons (fC (.int 30)) fNil))) fNil)) (.name 10) fYes fb_law_3 [10])) ρ m = .nx (ρ.set 9 (some (blP D))) m' ∧ D.length ≤ 30 ∧ Byt D ∧ Stp 0 m m' := by
  obtain ⟨o2, o3, o4, o5, o6, o7, o8, o9, o10, rfl⟩ := hρ
  obtain ⟨r, m1, e1, a1, b1, s1⟩ := draw 30 (Stp.refl hs) (by omega)
  obtain ⟨ys, m2, e2, l2, p2, s2⟩ := lcG_ex (i := 10) (te := fb_law_3) (xs := rngP 0 r.toNat) (ρ := [some a0, some (.cell 0), o2, o3, o4, o5, o6, o7, o8, o9, none]) (Inv := Stp 0 m) (Py := fun y => ∃ b : Int, (0 ≤ b ∧ b < 256) ∧ y = .int b) (fun x _ n hn => by
    obtain ⟨b, n', e, hb, st⟩ := byte_pick (i := 1) (ρ := [some a0, some (.cell 0), o2, o3, o4, o5, o6, o7, o8, o9, some x]) 3 (by omega) rfl hn
    exact ⟨.int b, n', e, ⟨b, hb, rfl⟩, st⟩) s1
  obtain ⟨D, rfl, hD⟩ := all_map (Q := fun b : Int => 0 ≤ b ∧ b < 256) (f := P.int) p2
  have hlen : D.length = r.toNat := by simpa [rngP] using l2
  refine ⟨D, m2, ?_, by omega, hD, s2⟩
  have k0 : (rngP 0 r.toNat).length ≤ 100000 := by simp [rngP]; omega
  have k1 : r ≤ 100000 := by omega
  generalize fb_law_3 = te at e2 ⊢
  simp [mkL_f, mkL_t, wipeP, mulOk, lw_l, lw_c, lv_l, lv_c, lv_x, sv_l, sv_c, sv_x, sv_t, lw_i, lw_s, lw_t, lv_s, lv_t, lv_i, lv_n, add_ii, add_ss, add_tt, add_ll, add_lc, add_cl, add_cc, sub_ii, plus_ii, mul_ii, mul_li, fdv_ii, mod_ii, pow_ii, neg_i, sh_i, sh_s, sh_t, sh_l, sh_n, sh_b, sh_c, eq_nn, ne_nn, eq_ni, ne_ni, eq_in, ne_in, eq_nb, ne_nb, eq_bn, ne_bn, eq_ns, ne_ns, eq_sn, ne_sn, eq_ii, ne_ii, eq_bb, ne_bb, eq_ss, ne_ss, eq_is, ne_is, eq_si, ne_si, eq_bs, ne_bs, eq_sb, ne_sb, isn_n, non_n, isn_i, non_i, isn_b, non_b, isn_s, non_s, isn_t, non_t, isn_l, non_l, isn_c, non_c, isn_x, non_x, tru_n, tru_b, tru_i, tru_t, tru_l, notv_b, ix_t, ix_s, ix_l, ix_x, ix_c, ixl_c, sl_t, sl_s, sl_l, sl_c, rev_l, rev_c, len_t, len_l, len_x, len_s, len_c, list_t, list_l, list_x, list_c, tuple_t, tuple_l, tuple_c, int_i, int_b, abs_i, ord_s, isi_n, isi_b, isi_i, isi_s, isi_t, isi_l, isi_c, kindc, max_ii, min_ii, app_c, ext_c, set_c, sidx_ss, cm_ii, cm_ile, cm_igt, cm_ige, isl_l, isl_c, isl_s, iss_s, iss_l, b_ok, b_st, b_ex, o_ok, o_st, o_ex, c_ok, c_st, c_ex, fin_rt, fin_nx, fin_st, nx_nx, nx_rt, nx_bk, nx_ct, nx_ex, nx_st, e_seq, e_var, e_c, e_op, e_un, e_nil, e_cons, e_call, e_tup, e_lst, e_otup, e_olst, e_gd, e_asg, e_drop, e_ret, e_retN, e_next, e_brk, e_cont, e_ifs, e_setS, e_aug, e_augS, e_tru, e_bl, e_and, e_or, e_not, e_andV, e_orV, e_notV, e_if, e_chain, e_nop, e_part, e_sl, e_iSeq, e_iR1, e_iR2, rngOk_of, rngOk2_of, e_for, e_lc, e_yes, e_mt, e_mt2, e_join, e_put, e_fits, Tg.put, TgL.puts, e1, a1, k1, k0, e2, blP]
theorem and2 {ρ : Env} {m m1 m2 : M} {fa fb : FE} (ha : fa ρ m = .ok (.bl true) m1) (hb : fb ρ m1 = .ok (.bl true) m2) : fAndV fa fb ρ m = .ok (.bl true) m2 := by
  rw [e_andV, ha, b_ok, tru_b]
  exact hb
theorem law_true : ∀ ns : List Int, ns.length ≤ 63 → ∃ m', f_law [.xls (ns.map .int)] [] = .ok (.bl true) m' := by
  intro ns hns
  have h0 : StAt 0 [stC ns 0 0 1] := ⟨ns, 0, 0, 1, rfl, by omega, by omega⟩
  refine ⟨[], ?_⟩
  unfold f_law fnC fnF fb_law
  show (finish true [] (fSeq _ _ [some (.xls (ns.map .int)), none, none, none, none, none, none, none, none, none, none] [])).calm = _
  have hst : ∀ n : M, fLst true (fCons (fCall (oList false) (fCons (fVar 0) fNil)) (fCons (fC (.int 0)) (fCons (fC (.int 0)) (fCons (fC (.int 1)) fNil)))) [some (.xls (ns.map .int)), none, none, none, none, none, none, none, none, none, none] n = .ok (.cell n.length) (n ++ [stC ns 0 0 1]) := fun n => by
    simp [mkL_f, mkL_t, wipeP, mulOk, lw_l, lw_c, lv_l, lv_c, lv_x, sv_l, sv_c, sv_x, sv_t, lw_i, lw_s, lw_t, lv_s, lv_t, lv_i, lv_n, add_ii, add_ss, add_tt, add_ll, add_lc, add_cl, add_cc, sub_ii, plus_ii, mul_ii, mul_li, fdv_ii, mod_ii, pow_ii, neg_i, sh_i, sh_s, sh_t, sh_l, sh_n, sh_b, sh_c, eq_nn, ne_nn, eq_ni, ne_ni, eq_in, ne_in, eq_nb, ne_nb, eq_bn, ne_bn, eq_ns, ne_ns, eq_sn, ne_sn, eq_ii, ne_ii, eq_bb, ne_bb, eq_ss, ne_ss, eq_is, ne_is, eq_si, ne_si, eq_bs, ne_bs, eq_sb, ne_sb, isn_n, non_n, isn_i, non_i, isn_b, non_b, isn_s, non_s, isn_t, non_t, isn_l, non_l, isn_c, non_c, isn_x, non_x, tru_n, tru_b, tru_i, tru_t, tru_l, notv_b, ix_t, ix_s, ix_l, ix_x, ix_c, ixl_c, sl_t, sl_s, sl_l, sl_c, rev_l, rev_c, len_t, len_l, len_x, len_s, len_c, list_t, list_l, list_x, list_c, tuple_t, tuple_l, tuple_c, int_i, int_b, abs_i, ord_s, isi_n, isi_b, isi_i, isi_s, isi_t, isi_l, isi_c, kindc, max_ii, min_ii, app_c, ext_c, set_c, sidx_ss, cm_ii, cm_ile, cm_igt, cm_ige, isl_l, isl_c, isl_s, iss_s, iss_l, b_ok, b_st, b_ex, o_ok, o_st, o_ex, c_ok, c_st, c_ex, fin_rt, fin_nx, fin_st, nx_nx, nx_rt, nx_bk, nx_ct, nx_ex, nx_st, e_seq, e_var, e_c, e_op, e_un, e_nil, e_cons, e_call, e_tup, e_lst, e_otup, e_olst, e_gd, e_asg, e_drop, e_ret, e_retN, e_next, e_brk, e_cont, e_ifs, e_setS, e_aug, e_augS, e_tru, e_bl, e_and, e_or, e_not, e_andV, e_orV, e_notV, e_if, e_chain, e_nop, e_part, e_sl, e_iSeq, e_iR1, e_iR2, rngOk_of, rngOk2_of, e_for, e_lc, e_yes, e_mt, e_mt2, e_join, e_put, e_fits, Tg.put, TgL.puts, stC]
  rw [e_seq, e_asg, hst]
  simp only [o_ok, e_put, List.set_cons_succ, List.set_cons_zero, nx_nx, List.nil_append, List.length_nil]
  obtain ⟨ρ4, m4, e4, s4, hρ4⟩ := forG_inv (g := .name 2) (body := fb_law_2) (Inv := fun ρ n => Stp 0 [stC ns 0 0 1] n ∧ LRho (.xls (ns.map .int)) ρ) (xs := rngP 0 3) (ρ := [some (.xls (ns.map .int)), some (.cell 0), none, none, none, none, none, none, none, none, none]) (m := [stC ns 0 0 1]) (fun x _ ρ n ⟨hn, hρ⟩ => by
    obtain ⟨ρ1, e1, ρ2, m2, e2, s2, h2⟩ := law_turn hn.2 (.xls (ns.map .int)) x hρ
    exact ⟨ρ1, e1, ρ2, m2, e2, hn.trans s2, h2⟩) ⟨Stp.refl h0, _, _, _, _, _, _, _, _, _, rfl⟩
  have hfor : ∀ (t : FS) ρ n, fFor (iR1 (fCons (fC (.int 3)) fNil)) (.name 2) t ρ n = forG (.name 2) t [] (rngP 0 3) ρ n := fun t ρ n => by
    simp [mkL_f, mkL_t, wipeP, mulOk, lw_l, lw_c, lv_l, lv_c, lv_x, sv_l, sv_c, sv_x, sv_t, lw_i, lw_s, lw_t, lv_s, lv_t, lv_i, lv_n, add_ii, add_ss, add_tt, add_ll, add_lc, add_cl, add_cc, sub_ii, plus_ii, mul_ii, mul_li, fdv_ii, mod_ii, pow_ii, neg_i, sh_i, sh_s, sh_t, sh_l, sh_n, sh_b, sh_c, eq_nn, ne_nn, eq_ni, ne_ni, eq_in, ne_in, eq_nb, ne_nb, eq_bn, ne_bn, eq_ns, ne_ns, eq_sn, ne_sn, eq_ii, ne_ii, eq_bb, ne_bb, eq_ss, ne_ss, eq_is, ne_is, eq_si, ne_si, eq_bs, ne_bs, eq_sb, ne_sb, isn_n, non_n, isn_i, non_i, isn_b, non_b, isn_s, non_s, isn_t, non_t, isn_l, non_l, isn_c, non_c, isn_x, non_x, tru_n, tru_b, tru_i, tru_t, tru_l, notv_b, ix_t, ix_s, ix_l, ix_x, ix_c, ixl_c, sl_t, sl_s, sl_l, sl_c, rev_l, rev_c, len_t, len_l, len_x, len_s, len_c, list_t, list_l, list_x, list_c, tuple_t, tuple_l, tuple_c, int_i, int_b, abs_i, ord_s, isi_n, isi_b, isi_i, isi_s, isi_t, isi_l, isi_c, kindc, max_ii, min_ii, app_c, ext_c, set_c, sidx_ss, cm_ii, cm_ile, cm_igt, cm_ige, isl_l, isl_c, isl_s, iss_s, iss_l, b_ok, b_st, b_ex, o_ok, o_st, o_ex, c_ok, c_st, c_ex, fin_rt, fin_nx, fin_st, nx_nx, nx_rt, nx_bk, nx_ct, nx_ex, nx_st, e_seq, e_var, e_c, e_op, e_un, e_nil, e_cons, e_call, e_tup, e_lst, e_otup, e_olst, e_gd, e_asg, e_drop, e_ret, e_retN, e_next, e_brk, e_cont, e_ifs, e_setS, e_aug, e_augS, e_tru, e_bl, e_and, e_or, e_not, e_andV, e_orV, e_notV, e_if, e_chain, e_nop, e_part, e_sl, e_iSeq, e_iR1, e_iR2, rngOk_of, rngOk2_of, e_for, e_lc, e_yes, e_mt, e_mt2, e_join, e_put, e_fits, Tg.put, TgL.puts]
  rw [e_seq, hfor, e4, nx_nx]
  obtain ⟨D, m5, e5, lD, hD, s5⟩ := law_draws s4.2 hρ4
  rw [e_seq, e5, nx_nx]
  obtain ⟨o2, o3, o4, o5, o6, o7, o8, o9, o10, rfl⟩ := hρ4
  simp only [List.set_cons_succ, List.set_cons_zero]
  have zs : ∀ (k : Nat) (ρ : Env) (fe : FE), k ≤ 1000 → fe ρ m5 = .ok (.int (k : Int)) m5 → fOp (oMul false) (fLst false (fCons (fC (.int 0)) fNil)) fe ρ m5 = .ok (blP (List.replicate k 0)) m5 := fun k ρ fe hk he =>
    op_of (bl_one rfl) he (by
      have g : decide (0 ≤ (k : Int) ∧ (k : Int) ≤ 100000) = true := decide_eq_true (by omega)
      simp [blP, mul_li, g, mkL_f]
      omega)
  rw [e_ret]
  have k1 : fOp oSub (fC (.int 256)) (fCall oLen (fCons (fVar 9) fNil)) [some (.xls (ns.map .int)), some (.cell 0), o2, o3, o4, o5, o6, o7, o8, some (blP D), o10] m5 = .ok (.int ((256 - D.length : Nat) : Int)) m5 := by
    have : (256 : Int) - D.length = ((256 - D.length : Nat) : Int) := by omega
    simp [mkL_f, mkL_t, wipeP, mulOk, lw_l, lw_c, lv_l, lv_c, lv_x, sv_l, sv_c, sv_x, sv_t, lw_i, lw_s, lw_t, lv_s, lv_t, lv_i, lv_n, add_ii, add_ss, add_tt, add_ll, add_lc, add_cl, add_cc, sub_ii, plus_ii, mul_ii, mul_li, fdv_ii, mod_ii, pow_ii, neg_i, sh_i, sh_s, sh_t, sh_l, sh_n, sh_b, sh_c, eq_nn, ne_nn, eq_ni, ne_ni, eq_in, ne_in, eq_nb, ne_nb, eq_bn, ne_bn, eq_ns, ne_ns, eq_sn, ne_sn, eq_ii, ne_ii, eq_bb, ne_bb, eq_ss, ne_ss, eq_is, ne_is, eq_si, ne_si, eq_bs, ne_bs, eq_sb, ne_sb, isn_n, non_n, isn_i, non_i, isn_b, non_b, isn_s, non_s, isn_t, non_t, isn_l, non_l, isn_c, non_c, isn_x, non_x, tru_n, tru_b, tru_i, tru_t, tru_l, notv_b, ix_t, ix_s, ix_l, ix_x, ix_c, ixl_c, sl_t, sl_s, sl_l, sl_c, rev_l, rev_c, len_t, len_l, len_x, len_s, len_c, list_t, list_l, list_x, list_c, tuple_t, tuple_l, tuple_c, int_i, int_b, abs_i, ord_s, isi_n, isi_b, isi_i, isi_s, isi_t, isi_l, isi_c, kindc, max_ii, min_ii, app_c, ext_c, set_c, sidx_ss, cm_ii, cm_ile, cm_igt, cm_ige, isl_l, isl_c, isl_s, iss_s, iss_l, b_ok, b_st, b_ex, o_ok, o_st, o_ex, c_ok, c_st, c_ex, fin_rt, fin_nx, fin_st, nx_nx, nx_rt, nx_bk, nx_ct, nx_ex, nx_st, e_seq, e_var, e_c, e_op, e_un, e_nil, e_cons, e_call, e_tup, e_lst, e_otup, e_olst, e_gd, e_asg, e_drop, e_ret, e_retN, e_next, e_brk, e_cont, e_ifs, e_setS, e_aug, e_augS, e_tru, e_bl, e_and, e_or, e_not, e_andV, e_orV, e_notV, e_if, e_chain, e_nop, e_part, e_sl, e_iSeq, e_iR1, e_iR2, rngOk_of, rngOk2_of, e_for, e_lc, e_yes, e_mt, e_mt2, e_join, e_put, e_fits, Tg.put, TgL.puts, blP, this]
  have zz := zs _ _ _ (by omega) k1
  have y1 : fVar 9 [some (.xls (ns.map .int)), some (.cell 0), o2, o3, o4, o5, o6, o7, o8, some (blP D), o10] m5 = .ok (blP D) m5 := rfl
  have y2 := bl_add y1 zz (by simp; omega)
  have y3 := call1 y2 (tried_k (by simp; omega) (byt_app hD byt_zeros) m5)
  have y4 := bl_one (ρ := [some (.xls (ns.map .int)), some (.cell 0), o2, o3, o4, o5, o6, o7, o8, some (blP D), o10]) (m := m5) (fa := fC (.int 2)) rfl
  have y5 := bl_add y4 (zs 255 _ (fC (.int 255)) (by omega) rfl) (by simp)
  have y6 := call1 y5 (tried_k (by simp) (byt_app (byt_cons (by omega) byt_nil) byt_zeros) m5)
  rw [and2 y3 y6, o_ok]
  show (finish true [] (.rt (.bl true) m5)).calm = _
  have hcutv : cutV' [] (.bl true) m5 = .ok (.bl true) [] := by
    unfold cutV'
    rw [if_pos (show OkCut [] m5 from ⟨Nat.zero_le _, fun n c h => absurd h (Nat.not_lt_zero _)⟩), fz_under un_bl]
    rfl
  rw [fin_rt, hcutv, c_ok]

end
/-! D -/
section
open PySem PySem.Spec PyProof.Rows
theorem hct_AnswerError {K : PySem.W.Frag} {mg : Str → Option Value} (T : Tx K mg) : ∀ c b, ct_AnswerError c = some b → PySem.W.exmOne K (.ref (He.ga K c)) (.ref (He.ga K "AnswerError")) = some b := by
  intro c b h
  unfold ct_AnswerError at h
  split at h
  · rename_i e; subst e; cases h; exact T.e_DamagedData_AnswerError
  cases h
theorem his_DamagedData {K : PySem.W.Frag} {mg : Str → Option Value} (T : Tx K mg) (c : Str) : ∀ b, is_DamagedData c = some b → ExcC K (He.ga K c) ∧ PySem.W.kitOne K (.ref (He.ga K c)) (.ref (He.ga K "DamagedData")) = some b := by
  intro b h
  have x := T.ex
  unfold exK at x
  simp only [Bool.and_eq_true, decide_eq_true_eq] at x
  obtain ⟨x0, x1, x2, x3⟩ := x
  unfold is_DamagedData at h
  split at h
  · rename_i e; subst e; cases h; exact ⟨exOf_ok x0, x1⟩
  cases h
theorem his_ValueError {K : PySem.W.Frag} {mg : Str → Option Value} (T : Tx K mg) (c : Str) : ∀ b, is_ValueError c = some b → ExcC K (He.ga K c) ∧ PySem.W.kitOne K (.ref (He.ga K c)) (.type "ValueError") = some b := by
  intro b h
  have x := T.ex
  unfold exK at x
  simp only [Bool.and_eq_true, decide_eq_true_eq] at x
  obtain ⟨x0, x1, x2, x3⟩ := x
  unfold is_ValueError at h
  split at h
  · rename_i e; subst e; cases h; exact ⟨exOf_ok x0, x2⟩
  cases h
theorem d_bytes_of {P : Program} {w : World} {K : PySem.W.Frag} {mg : Str → Option Value} {base : Heap} (T : Tx K mg) {cdv : Value} {A : Around} {outer : List PySem.Env} {s : Shared} {H : Hp} {E : XK} (hr : Room (0) (A.deeper (envOfC "bytes_of" (defScope s_bytes_of) s.heap.objs.size (He.fAd K ("bytes_of", none)) cdv))) :
    PSs (cxOf CX0 P w K mg base ["value", "number", "data", "_", "character"] "bytes_of" (defScope s_bytes_of) (He.fAd K ("bytes_of", none)) cdv A outer s H E).nox (defBody s_bytes_of) (tS K (fun _ => E0) fb_bytes_of) := by
  have nd : (["value", "number", "data", "_", "character"] : List Str).Nodup := sc_bytes_of.nd
  have hu := hu_of hr
  unfold fb_bytes_of
  exact (pps_cons (pp_if (pp_tru (pp_callB call_isi p_isi (by rfl) T.f_isinstance (by decide +kernel) (pp_cons (pp_var 0) (pp_cons (pp_c (pe_bltn (v := .ty "str") (by rfl) T.f_str (by decide +kernel) rfl) (fun _ _ _ => .ty _)) pp_nil)))) (pps_one (pp_ret (pp_op o_add (p_add false) (pp_op o_add (p_add false) (pp_lst false (pp_cons (pp_c (pe_gi rfl T.i_TEXT) (fun _ _ _ => .int _)) pp_nil)) (pp_lc false (own := [("character", 4)]) (t := (.name 4)) rfl nd (pp_iSeq (pp_var 0)) (blkOk_by (N := ["value", "number", "data", "_", "character"]) (sc := (defScope s_bytes_of)) (by decide +kernel)) (by decide) (fun _ _ _ _ _ => (pg_name (i := 4) nd rfl (Or.inl rfl))) (fun _ _ _ _ _ => pp_tnil) (fun _ _ _ _ _ => (pp_callB cOrd1 p_ord (by rfl) T.f_ord (by decide +kernel) (pp_cons (pp_var 4) pp_nil))))) (pp_lst false (pp_cons (pp_c pe_int (fun _ _ _ => .int _)) pp_nil))))) pps_nil)
  (pps_cons (pp_set (n := 1) nd rfl (Or.inl rfl) (pp_op o_add (p_add false) (pp_var 0) (pp_c (pe_gi rfl T.i_SHIFT) (fun _ _ _ => .int _))))
  (pps_cons (pp_set (n := 2) nd rfl (Or.inl rfl) (pp_lst true pp_nil))
  (pps_cons (pp_for (t := (.name 3)) PassesOwn.never rfl (pp_iR1 (by rfl) T.f_range (pp_cons (pp_c (pe_gi rfl T.i_NUMBER_BYTES) (fun _ _ _ => .int _)) pp_nil)) (pg_name (i := 3) nd rfl (Or.inl rfl)) (pps_cons (pp_expr (pp_mt PySem.F.plainAttrs_list PySem.F.slot_list_append PySem.F.type_list_append mt_append ty_list p_append (pp_var 2) (pp_cons (pp_op oModI p_mod (pp_var 1) (pp_c pe_int (fun _ _ _ => .int _))) pp_nil)))
  (pps_one (pp_set (n := 1) nd rfl (Or.inl rfl) (pp_op oFdvI p_fdv (pp_var 1) (pp_c pe_int (fun _ _ _ => .int _)))))))
  (pps_one (pp_ret (pp_op o_add (p_add false) (pp_lst false (pp_cons (pp_c (pe_gi rfl T.i_INTEGER) (fun _ _ _ => .int _)) pp_nil)) (pp_rev false (pp_var 2)))))))))

theorem d_key_of {P : Program} {w : World} {K : PySem.W.Frag} {mg : Str → Option Value} {base : Heap} (T : Tx K mg) (G_bytes_of : Con P w K mg base CX0 1 ("bytes_of", none) ["value"] (spF K 1 f_bytes_of)) {cdv : Value} {A : Around} {outer : List PySem.Env} {s : Shared} {H : Hp} {E : XK} (hr : Room (1) (A.deeper (envOfC "key_of" (defScope s_key_of) s.heap.objs.size (He.fAd K ("key_of", none)) cdv))) :
    PSs (cxOf CX0 P w K mg base ["values", "key", "value"] "key_of" (defScope s_key_of) (He.fAd K ("key_of", none)) cdv A outer s H E).nox (defBody s_key_of) (tS K (fun _ => E0) fb_key_of) := by
  have nd : (["values", "key", "value"] : List Str).Nodup := sc_key_of.nd
  have hu := hu_of hr
  unfold fb_key_of
  exact (pps_cons (pp_set (n := 1) nd rfl (Or.inl rfl) (pp_lst true pp_nil))
  (pps_cons (pp_for (t := (.name 2)) PassesOwn.never rfl (pp_iSeq (pp_var 0)) (pg_name (i := 2) nd rfl (Or.inl rfl)) (pps_one (pp_expr (pp_mt PySem.F.plainAttrs_list PySem.F.slot_list_extend PySem.F.type_list_extend mt_extend ty_list p_extend (pp_var 1) (pp_cons (pp_fcall G_bytes_of (hr.mono (by decide)) (by rfl) T.g_bytes_of passN (pp_cons (pp_var 2) pp_nil)) pp_nil)))))
  (pps_one (pp_ret (pp_callT cTupQ p_tuple (by rfl) T.f_tuple (by decide +kernel) (pp_cons (pp_var 1) pp_nil))))))

theorem d_character_of {P : Program} {w : World} {K : PySem.W.Frag} {mg : Str → Option Value} {base : Heap} (T : Tx K mg) {cdv : Value} {A : Around} {outer : List PySem.Env} {s : Shared} {H : Hp} {E : XK} (hr : Room (0) (A.deeper (envOfC "character_of" (defScope s_character_of) s.heap.objs.size (He.fAd K ("character_of", none)) cdv))) :
    PSs (cxOf CX0 P w K mg base ["code"] "character_of" (defScope s_character_of) (He.fAd K ("character_of", none)) cdv A outer s H E).nox (defBody s_character_of) (tS K (fun _ => E0) fb_character_of) := by
  have nd : (["code"] : List Str).Nodup := sc_character_of.nd
  have hu := hu_of hr
  unfold fb_character_of
  exact (pps_cons (pp_if (pp_tchain (op_cm .le (u200 hr)) (op_cm .lt (u200 hr)) (p_cm .le) (p_cm .lt) (pp_c pe_int (fun _ _ _ => .int _)) (pp_var 0) (pp_c pe_int (fun _ _ _ => .int _))) (pps_one (pp_ret (pp_ix (pp_c (pe_gs rfl T.i_BEFORE_PERCENT) (fun _ _ _ => .str _)) (pp_op oSubI p_sub (pp_var 0) (pp_c pe_int (fun _ _ _ => .int _))) (fun _ _ => rfl)))) pps_nil)
  (pps_cons (pp_if (pp_tchain (op_cm .lt (u200 hr)) (op_cm .lt (u200 hr)) (p_cm .lt) (p_cm .lt) (pp_c pe_int (fun _ _ _ => .int _)) (pp_var 0) (pp_c pe_int (fun _ _ _ => .int _))) (pps_one (pp_ret (pp_ix (pp_c (pe_gs rfl T.i_AFTER_PERCENT) (fun _ _ _ => .str _)) (pp_op oSubI p_sub (pp_var 0) (pp_c pe_int (fun _ _ _ => .int _))) (fun _ _ => rfl)))) pps_nil)
  (pps_one (pp_ret (pp_c pe_non (fun _ _ _ => .non))))))

theorem d_integer_at {P : Program} {w : World} {K : PySem.W.Frag} {mg : Str → Option Value} {base : Heap} (T : Tx K mg) {cdv : Value} {A : Around} {outer : List PySem.Env} {s : Shared} {H : Hp} {E : XK} (hr : Room (0) (A.deeper (envOfC "integer_at" (defScope s_integer_at) s.heap.objs.size (He.fAd K ("integer_at", none)) cdv))) :
    PSs (cxOf CX0 P w K mg base ["key", "at", "data", "number", "byte"] "integer_at" (defScope s_integer_at) (He.fAd K ("integer_at", none)) cdv A outer s H E).nox (defBody s_integer_at) (tS K (fun _ => E0) fb_integer_at) := by
  have nd : (["key", "at", "data", "number", "byte"] : List Str).Nodup := sc_integer_at.nd
  have hu := hu_of hr
  unfold fb_integer_at
  exact (pps_cons (pp_set (n := 2) nd rfl (Or.inl rfl) (pp_slice false (pp_var 0) (pp_part (pp_var 1)) (pp_part (pp_op o_add (p_add false) (pp_var 1) (pp_c (pe_gi rfl T.i_NUMBER_BYTES) (fun _ _ _ => .int _))))))
  (pps_cons (pp_if (pp_tcmp (op_cm .lt (u200 hr)) (p_cm .lt) (pp_callB c_len3 p_len (by rfl) T.f_len (by decide +kernel) (pp_cons (pp_var 2) pp_nil)) (pp_c (pe_gi rfl T.i_NUMBER_BYTES) (fun _ _ _ => .int _)) (nomark _)) (pps_one (pp_ret (pp_c pe_non (fun _ _ _ => .non)))) pps_nil)
  (pps_cons (pp_set (n := 3) nd rfl (Or.inl rfl) (pp_c pe_int (fun _ _ _ => .int _)))
  (pps_cons (pp_for (t := (.name 4)) PassesOwn.never rfl (pp_iSeq (pp_var 2)) (pg_name (i := 4) nd rfl (Or.inl rfl)) (pps_one (pp_set (n := 3) nd rfl (Or.inl rfl) (pp_op o_add (p_add false) (pp_op o_mul (p_mul false) (pp_c pe_int (fun _ _ _ => .int _)) (pp_var 3)) (pp_var 4)))))
  (pps_cons (pp_if (pp_not (pp_tchain (op_cm .le (u200 hr)) (op_cm .le (u200 hr)) (p_cm .le) (p_cm .le) (pp_neg (pp_c (pe_gi rfl T.i_BOUND) (fun _ _ _ => .int _))) (pp_op oSubI p_sub (pp_var 3) (pp_c (pe_gi rfl T.i_SHIFT) (fun _ _ _ => .int _))) (pp_c (pe_gi rfl T.i_BOUND) (fun _ _ _ => .int _)))) (pps_one (pp_ret (pp_c pe_non (fun _ _ _ => .non)))) pps_nil)
  (pps_one (pp_ret (pp_op oSubI p_sub (pp_var 3) (pp_c (pe_gi rfl T.i_SHIFT) (fun _ _ _ => .int _))))))))))

theorem d_text_at {P : Program} {w : World} {K : PySem.W.Frag} {mg : Str → Option Value} {base : Heap} (T : Tx K mg) (G_character_of : Con P w K mg base CX0 1 ("character_of", none) ["code"] (spF K 1 f_character_of)) {cdv : Value} {A : Around} {outer : List PySem.Env} {s : Shared} {H : Hp} {E : XK} (hr : Room (1) (A.deeper (envOfC "text_at" (defScope s_text_at) s.heap.objs.size (He.fAd K ("text_at", none)) cdv))) :
    PSs (cxOf CX0 P w K mg base ["key", "at", "text", "code", "character"] "text_at" (defScope s_text_at) (He.fAd K ("text_at", none)) cdv A outer s H E).nox (defBody s_text_at) (tS K (fun _ => E0) fb_text_at) := by
  have nd : (["key", "at", "text", "code", "character"] : List Str).Nodup := sc_text_at.nd
  have hu := hu_of hr
  unfold fb_text_at
  exact (pps_cons (pp_set (n := 2) nd rfl (Or.inl rfl) (pp_c pe_str (fun _ _ _ => .str _)))
  (pps_cons (pp_for (t := (.name 3)) PassesOwn.never rfl (pp_iSeq (pp_slice false (pp_var 0) (pp_part (pp_var 1)) (pp_part (pp_op o_add (p_add false) (pp_op o_add (p_add false) (pp_var 1) (pp_c (pe_gi rfl T.i_MOST_CHARACTERS) (fun _ _ _ => .int _))) (pp_c pe_int (fun _ _ _ => .int _)))))) (pg_name (i := 3) nd rfl (Or.inl rfl)) (pps_cons (pp_if (pp_tcmp (o_eq hr.units) p_eq (pp_var 3) (pp_c pe_int (fun _ _ _ => .int _)) (nomark _)) (pps_one (pp_ret (pp_var 2))) pps_nil)
  (pps_cons (pp_set (n := 4) nd rfl (Or.inl rfl) (pp_fcall G_character_of (hr.mono (by decide)) (by rfl) T.g_character_of passN (pp_cons (pp_var 3) pp_nil)))
  (pps_cons (pp_if (pp_tcmp oIsNo p_isN (pp_var 4) (pp_c pe_non (fun _ _ _ => .non)) (nomark _)) (pps_one (pp_ret (pp_c pe_non (fun _ _ _ => .non)))) pps_nil)
  (pps_one (pp_set (n := 2) nd rfl (Or.inl rfl) (pp_op o_add (p_add false) (pp_var 2) (pp_var 4))))))))
  (pps_one (pp_ret (pp_c pe_non (fun _ _ _ => .non))))))

theorem d_values_of {P : Program} {w : World} {K : PySem.W.Frag} {mg : Str → Option Value} {base : Heap} (T : Tx K mg) (G_integer_at : Con P w K mg base CX0 1 ("integer_at", none) ["key", "at"] (spF K 2 f_integer_at)) (G_text_at : Con P w K mg base CX0 2 ("text_at", none) ["key", "at"] (spF K 2 f_text_at)) (G_bytes_of : Con P w K mg base CX0 1 ("bytes_of", none) ["value"] (spF K 1 f_bytes_of)) {cdv : Value} {A : Around} {outer : List PySem.Env} {s : Shared} {H : Hp} {E : XK} (hr : Room (2) (A.deeper (envOfC "values_of" (defScope s_values_of) s.heap.objs.size (He.fAd K ("values_of", none)) cdv))) :
    PSs (cxOf CX0 P w K mg base ["key", "found", "at", "value"] "values_of" (defScope s_values_of) (He.fAd K ("values_of", none)) cdv A outer s H E).nox (defBody s_values_of) (tS K (fun _ => E0) fb_values_of) := by
  have nd : (["key", "found", "at", "value"] : List Str).Nodup := sc_values_of.nd
  have hu := hu_of hr
  unfold fb_values_of
  exact (pps_cons (pp_set (n := 1) nd rfl (Or.inl rfl) (pp_lst true pp_nil))
  (pps_cons (pp_set (n := 2) nd rfl (Or.inl rfl) (pp_c pe_int (fun _ _ _ => .int _)))
  (pps_cons (pp_while PassesOwn.never (pp_tcmp (op_cm .lt (u200 hr)) (p_cm .lt) (pp_var 2) (pp_callB c_len3 p_len (by rfl) T.f_len (by decide +kernel) (pp_cons (pp_var 0) pp_nil)) (nomark _)) (pps_cons (pp_if (pp_tcmp (o_eq hr.units) p_eq (pp_ix (pp_var 0) (pp_var 2) (fun _ _ => rfl)) (pp_c (pe_gi rfl T.i_INTEGER) (fun _ _ _ => .int _)) (nomark _)) (pps_one (pp_set (n := 3) nd rfl (Or.inl rfl) (pp_fcall G_integer_at (hr.mono (by decide)) (by rfl) T.g_integer_at passN (pp_cons (pp_var 0) (pp_cons (pp_op o_add (p_add false) (pp_var 2) (pp_c pe_int (fun _ _ _ => .int _))) pp_nil))))) (pps_one (pp_if (pp_tcmp (o_eq hr.units) p_eq (pp_ix (pp_var 0) (pp_var 2) (fun _ _ => rfl)) (pp_c (pe_gi rfl T.i_TEXT) (fun _ _ _ => .int _)) (nomark _)) (pps_one (pp_set (n := 3) nd rfl (Or.inl rfl) (pp_fcall G_text_at (hr.mono (by decide)) (by rfl) T.g_text_at passN (pp_cons (pp_var 0) (pp_cons (pp_op o_add (p_add false) (pp_var 2) (pp_c pe_int (fun _ _ _ => .int _))) pp_nil))))) (pps_one (pp_ret (pp_c pe_non (fun _ _ _ => .non)))))))
  (pps_cons (pp_if (pp_tcmp oIsNo p_isN (pp_var 3) (pp_c pe_non (fun _ _ _ => .non)) (nomark _)) (pps_one (pp_ret (pp_c pe_non (fun _ _ _ => .non)))) pps_nil)
  (pps_cons (pp_expr (pp_mt PySem.F.plainAttrs_list PySem.F.slot_list_append PySem.F.type_list_append mt_append ty_list p_append (pp_var 1) (pp_cons (pp_var 3) pp_nil)))
  (pps_one (pp_aug (n := 2) nd rfl (Or.inl rfl) (pp_callB c_len3 p_len (by rfl) T.f_len (by decide +kernel) (pp_cons (pp_fcall G_bytes_of (hr.mono (by decide)) (by rfl) T.g_bytes_of passN (pp_cons (pp_var 3) pp_nil)) pp_nil)) ip_add p_ipadd))))))
  (pps_one (pp_ret (pp_callT cTupQ p_tuple (by rfl) T.f_tuple (by decide +kernel) (pp_cons (pp_var 1) pp_nil)))))))

theorem d_entry_bytes {P : Program} {w : World} {K : PySem.W.Frag} {mg : Str → Option Value} {base : Heap} (T : Tx K mg) (G_key_of : Con P w K mg base CX0 2 ("key_of", none) ["values"] (spF K 1 f_key_of)) {cdv : Value} {A : Around} {outer : List PySem.Env} {s : Shared} {H : Hp} {E : XK} (hr : Room (2) (A.deeper (envOfC "entry_bytes" (defScope s_entry_bytes) s.heap.objs.size (He.fAd K ("entry_bytes", none)) cdv))) :
    PSs (cxOf CX0 P w K mg base ["entry", "key", "value", "written"] "entry_bytes" (defScope s_entry_bytes) (He.fAd K ("entry_bytes", none)) cdv A outer s H E).nox (defBody s_entry_bytes) (tS K (fun _ => E0) fb_entry_bytes) := by
  have nd : (["entry", "key", "value", "written"] : List Str).Nodup := sc_entry_bytes.nd
  have hu := hu_of hr
  unfold fb_entry_bytes
  exact (pps_cons (pp_asg (t := (.tup (.cons (.name 1) (.cons (.name 2) TgL.nil)))) (pp_var 0) (pg_tup rfl (pgs_cons (pg_name (i := 1) nd rfl (Or.inl rfl)) (pgs_cons (pg_name (i := 2) nd rfl (Or.inl rfl)) pgs_nil))))
  (pps_cons (pp_set (n := 3) nd rfl (Or.inl rfl) (pp_fcall G_key_of (hr.mono (by decide)) (by rfl) T.g_key_of passN (pp_cons (pp_var 2) pp_nil)))
  (pps_one (pp_ret (pp_op o_add (p_add false) (pp_op o_add (p_add false) (pp_op o_add (p_add false) (pp_lst false (pp_cons (pp_callB c_len3 p_len (by rfl) T.f_len (by decide +kernel) (pp_cons (pp_var 1) pp_nil)) pp_nil)) (pp_callT cListQ (p_list false) (by rfl) T.f_list (by decide +kernel) (pp_cons (pp_var 1) pp_nil))) (pp_lst false (pp_cons (pp_callB c_len3 p_len (by rfl) T.f_len (by decide +kernel) (pp_cons (pp_var 3) pp_nil)) pp_nil))) (pp_callT cListQ (p_list false) (by rfl) T.f_list (by decide +kernel) (pp_cons (pp_var 3) pp_nil)))))))

theorem d_child_bytes {P : Program} {w : World} {K : PySem.W.Frag} {mg : Str → Option Value} {base : Heap} (T : Tx K mg) {cdv : Value} {A : Around} {outer : List PySem.Env} {s : Shared} {H : Hp} {E : XK} (hr : Room (0) (A.deeper (envOfC "child_bytes" (defScope s_child_bytes) s.heap.objs.size (He.fAd K ("child_bytes", none)) cdv))) :
    PSs (cxOf CX0 P w K mg base ["child", "key", "number"] "child_bytes" (defScope s_child_bytes) (He.fAd K ("child_bytes", none)) cdv A outer s H E).nox (defBody s_child_bytes) (tS K (fun _ => E0) fb_child_bytes) := by
  have nd : (["child", "key", "number"] : List Str).Nodup := sc_child_bytes.nd
  have hu := hu_of hr
  unfold fb_child_bytes
  exact (pps_cons (pp_asg (t := (.tup (.cons (.name 1) (.cons (.name 2) TgL.nil)))) (pp_var 0) (pg_tup rfl (pgs_cons (pg_name (i := 1) nd rfl (Or.inl rfl)) (pgs_cons (pg_name (i := 2) nd rfl (Or.inl rfl)) pgs_nil))))
  (pps_one (pp_ret (pp_op o_add (p_add false) (pp_lst false (pp_cons (pp_op oFdvI p_fdv (pp_var 2) (pp_c pe_int (fun _ _ _ => .int _))) (pp_cons (pp_op oModI p_mod (pp_var 2) (pp_c pe_int (fun _ _ _ => .int _))) (pp_cons (pp_callB c_len3 p_len (by rfl) T.f_len (by decide +kernel) (pp_cons (pp_var 1) pp_nil)) pp_nil)))) (pp_callT cListQ (p_list false) (by rfl) T.f_list (by decide +kernel) (pp_cons (pp_var 1) pp_nil))))))

theorem d_write_page {P : Program} {w : World} {K : PySem.W.Frag} {mg : Str → Option Value} {base : Heap} (T : Tx K mg) (G_entry_bytes : Con P w K mg base CX0 3 ("entry_bytes", none) ["entry"] (spF K 1 f_entry_bytes)) (G_child_bytes : Con P w K mg base CX0 1 ("child_bytes", none) ["child"] (spF K 1 f_child_bytes)) {cdv : Value} {A : Around} {outer : List PySem.Env} {s : Shared} {H : Hp} {E : XK} (hr : Room (3) (A.deeper (envOfC "write_page" (defScope s_write_page) s.heap.objs.size (He.fAd K ("write_page", none)) cdv))) :
    PSs (cxOf CX0 P w K mg base ["page", "kind", "parts", "data", "part"] "write_page" (defScope s_write_page) (He.fAd K ("write_page", none)) cdv A outer s H E).nox (defBody s_write_page) (tS K (fun _ => E0) fb_write_page) := by
  have nd : (["page", "kind", "parts", "data", "part"] : List Str).Nodup := sc_write_page.nd
  have hu := hu_of hr
  unfold fb_write_page
  exact (pps_cons (pp_asg (t := (.tup (.cons (.name 1) (.cons (.name 2) TgL.nil)))) (pp_var 0) (pg_tup rfl (pgs_cons (pg_name (i := 1) nd rfl (Or.inl rfl)) (pgs_cons (pg_name (i := 2) nd rfl (Or.inl rfl)) pgs_nil))))
  (pps_cons (pp_if (pp_tcmp (o_eq hr.units) p_eq (pp_var 1) (pp_c pe_str (fun _ _ _ => .str _)) (nomark _)) (pps_cons (pp_set (n := 3) nd rfl (Or.inl rfl) (pp_lst true (pp_cons (pp_c (pe_gi rfl T.i_LEAF) (fun _ _ _ => .int _)) (pp_cons (pp_callB c_len3 p_len (by rfl) T.f_len (by decide +kernel) (pp_cons (pp_var 2) pp_nil)) pp_nil))))
  (pps_one (pp_for (t := (.name 4)) PassesOwn.never rfl (pp_iSeq (pp_var 2)) (pg_name (i := 4) nd rfl (Or.inl rfl)) (pps_one (pp_expr (pp_mt PySem.F.plainAttrs_list PySem.F.slot_list_extend PySem.F.type_list_extend mt_extend ty_list p_extend (pp_var 3) (pp_cons (pp_fcall G_entry_bytes (hr.mono (by decide)) (by rfl) T.g_entry_bytes passN (pp_cons (pp_var 4) pp_nil)) pp_nil))))))) (pps_cons (pp_set (n := 3) nd rfl (Or.inl rfl) (pp_lst true (pp_cons (pp_c (pe_gi rfl T.i_INNER) (fun _ _ _ => .int _)) (pp_cons (pp_callB c_len3 p_len (by rfl) T.f_len (by decide +kernel) (pp_cons (pp_var 2) pp_nil)) pp_nil))))
  (pps_one (pp_for (t := (.name 4)) PassesOwn.never rfl (pp_iSeq (pp_var 2)) (pg_name (i := 4) nd rfl (Or.inl rfl)) (pps_one (pp_expr (pp_mt PySem.F.plainAttrs_list PySem.F.slot_list_extend PySem.F.type_list_extend mt_extend ty_list p_extend (pp_var 3) (pp_cons (pp_fcall G_child_bytes (hr.mono (by decide)) (by rfl) T.g_child_bytes passN (pp_cons (pp_var 4) pp_nil)) pp_nil))))))))
  (pps_cons (pp_if (pp_tcmp (op_cm .gt (u200 hr)) (p_cm .gt) (pp_callB c_len3 p_len (by rfl) T.f_len (by decide +kernel) (pp_cons (pp_var 3) pp_nil)) (pp_c (pe_gi rfl T.i_PAGE) (fun _ _ _ => .int _)) (nomark _)) (pps_one (pp_ret (pp_c pe_non (fun _ _ _ => .non)))) pps_nil)
  (pps_one (pp_ret (pp_op o_add (p_add false) (pp_var 3) (pp_op o_mul (p_mul false) (pp_lst false (pp_cons (pp_c pe_int (fun _ _ _ => .int _)) pp_nil)) (pp_op oSubI p_sub (pp_c (pe_gi rfl T.i_PAGE) (fun _ _ _ => .int _)) (pp_callB c_len3 p_len (by rfl) T.f_len (by decide +kernel) (pp_cons (pp_var 3) pp_nil))))))))))

theorem d_PageReader_init {P : Program} {w : World} {K : PySem.W.Frag} {mg : Str → Option Value} {base : Heap} (T : Tx K mg) {cdv : Value} {A : Around} {outer : List PySem.Env} {s : Shared} {H : Hp} {E : XK} (hr : Room (0) (A.deeper (envOfC "PageReader.__init__" (defScope s_PageReader_init) s.heap.objs.size (He.fAd K ("PageReader", some "__init__")) cdv))) :
    PSs (cxOf CX0 P w K mg base ["self", "data"] "PageReader.__init__" (defScope s_PageReader_init) (He.fAd K ("PageReader", some "__init__")) cdv A outer s H E).nox (defBody s_PageReader_init) (tS K (fun _ => E0) fb_PageReader_init) := by
  have nd : (["self", "data"] : List Str).Nodup := sc_PageReader_init.nd
  have hu := hu_of hr
  unfold fb_PageReader_init
  exact (pps_cons (pp_setF T.c_PageReader T.n_PageReader_data (pp_var 0) (pp_callT cListQ (p_list false) (by rfl) T.f_list (by decide +kernel) (pp_cons (pp_var 1) pp_nil)))
  (pps_one (pp_setF T.c_PageReader T.n_PageReader_at (pp_var 0) (pp_c pe_int (fun _ _ _ => .int _)))))

theorem d_PageReader_need {P : Program} {w : World} {K : PySem.W.Frag} {mg : Str → Option Value} {base : Heap} (T : Tx K mg) {cdv : Value} {A : Around} {outer : List PySem.Env} {s : Shared} {H : Hp} {E : XK} (hr : Room (0) (A.deeper (envOfC "PageReader.need" (defScope s_PageReader_need) s.heap.objs.size (He.fAd K ("PageReader", some "need")) cdv))) :
    PSs (cxOf (L2.CX P w) P w K mg base ["self", "holds"] "PageReader.need" (defScope s_PageReader_need) (He.fAd K ("PageReader", some "need")) cdv A outer s H E) (defBody s_PageReader_need) (tS K (fun _ => E) fb_PageReader_need) := by
  have nd : (["self", "holds"] : List Str).Nodup := sc_PageReader_need.nd
  have hu := hu_of hr
  unfold fb_PageReader_need
  exact (pps_one (pp_if (pp_not (pp_tru (pp_var 1))) (pps_one (pp_raise rfl (takes_of rfl rfl rfl rfl) (pmk_own PySem.F.excBase_ValueError (T.x_DamagedData).1 T.g_DamagedData (T.x_DamagedData).2.1 (raises_own (T.x_DamagedData).2.2.1 (T.x_DamagedData).2.2.2) (by rfl)))) pps_nil))

theorem d_PageReader_read_bytes {P : Program} {w : World} {K : PySem.W.Frag} {mg : Str → Option Value} {base : Heap} (T : Tx K mg) (G_PageReader_need : Con P w K mg base (L2.CX P w) 1 ("PageReader", some "need") ["self", "holds"] (spF K 2 f_PageReader_need)) {cdv : Value} {A : Around} {outer : List PySem.Env} {s : Shared} {H : Hp} {E : XK} (hr : Room (1) (A.deeper (envOfC "PageReader.read_bytes" (defScope s_PageReader_read_bytes) s.heap.objs.size (He.fAd K ("PageReader", some "read_bytes")) cdv))) :
    PSs (cxOf (L2.CX P w) P w K mg base ["self", "count"] "PageReader.read_bytes" (defScope s_PageReader_read_bytes) (He.fAd K ("PageReader", some "read_bytes")) cdv A outer s H E) (defBody s_PageReader_read_bytes) (tS K (fun _ => E) fb_PageReader_read_bytes) := by
  have nd : (["self", "count"] : List Str).Nodup := sc_PageReader_read_bytes.nd
  have hu := hu_of hr
  unfold fb_PageReader_read_bytes
  exact (pps_cons (pp_expr (pp_meth G_PageReader_need (hr.mono (by decide)) T.c_PageReader T.m_PageReader_need (passE (takes_of rfl rfl rfl rfl)) (pp_var 0) (pp_cons (pp_cmp (op_cm .le (u200 hr)) (p_cm .le) (pp_op o_add (p_add false) (pp_fld T.c_PageReader T.n_PageReader_at (pp_var 0)) (pp_var 1)) (pp_callB c_len3 p_len (by rfl) T.f_len (by decide +kernel) (pp_cons (pp_fld T.c_PageReader T.n_PageReader_data (pp_var 0)) pp_nil)) (nomark _)) pp_nil)))
  (pps_cons (pp_augF T.c_PageReader T.n_PageReader_at (pp_var 0) (pp_var 1) ip_add p_ipadd)
  (pps_one (pp_ret (pp_callT cTupQ p_tuple (by rfl) T.f_tuple (by decide +kernel) (pp_cons (pp_slice false (pp_fld T.c_PageReader T.n_PageReader_data (pp_var 0)) (pp_part (pp_op oSubI p_sub (pp_fld T.c_PageReader T.n_PageReader_at (pp_var 0)) (pp_var 1))) (pp_part (pp_fld T.c_PageReader T.n_PageReader_at (pp_var 0)))) pp_nil))))))

theorem d_PageReader_read_byte {P : Program} {w : World} {K : PySem.W.Frag} {mg : Str → Option Value} {base : Heap} (T : Tx K mg) (G_PageReader_read_bytes : Con P w K mg base (L2.CX P w) 2 ("PageReader", some "read_bytes") ["self", "count"] (spF K 2 f_PageReader_read_bytes)) {cdv : Value} {A : Around} {outer : List PySem.Env} {s : Shared} {H : Hp} {E : XK} (hr : Room (2) (A.deeper (envOfC "PageReader.read_byte" (defScope s_PageReader_read_byte) s.heap.objs.size (He.fAd K ("PageReader", some "read_byte")) cdv))) :
    PSs (cxOf (L2.CX P w) P w K mg base ["self"] "PageReader.read_byte" (defScope s_PageReader_read_byte) (He.fAd K ("PageReader", some "read_byte")) cdv A outer s H E) (defBody s_PageReader_read_byte) (tS K (fun _ => E) fb_PageReader_read_byte) := by
  have nd : (["self"] : List Str).Nodup := sc_PageReader_read_byte.nd
  have hu := hu_of hr
  unfold fb_PageReader_read_byte
  exact (pps_one (pp_ret (pp_ix (pp_meth G_PageReader_read_bytes (hr.mono (by decide)) T.c_PageReader T.m_PageReader_read_bytes (passE (takes_of rfl rfl rfl rfl)) (pp_var 0) (pp_cons (pp_c pe_int (fun _ _ _ => .int _)) pp_nil)) (pp_c pe_int (fun _ _ _ => .int _)) (fun _ _ => rfl))))

theorem d_PageReader_read_key {P : Program} {w : World} {K : PySem.W.Frag} {mg : Str → Option Value} {base : Heap} (T : Tx K mg) (G_PageReader_read_bytes : Con P w K mg base (L2.CX P w) 2 ("PageReader", some "read_bytes") ["self", "count"] (spF K 2 f_PageReader_read_bytes)) (G_PageReader_read_byte : Con P w K mg base (L2.CX P w) 3 ("PageReader", some "read_byte") ["self"] (spF K 1 f_PageReader_read_byte)) {cdv : Value} {A : Around} {outer : List PySem.Env} {s : Shared} {H : Hp} {E : XK} (hr : Room (3) (A.deeper (envOfC "PageReader.read_key" (defScope s_PageReader_read_key) s.heap.objs.size (He.fAd K ("PageReader", some "read_key")) cdv))) :
    PSs (cxOf (L2.CX P w) P w K mg base ["self"] "PageReader.read_key" (defScope s_PageReader_read_key) (He.fAd K ("PageReader", some "read_key")) cdv A outer s H E) (defBody s_PageReader_read_key) (tS K (fun _ => E) fb_PageReader_read_key) := by
  have nd : (["self"] : List Str).Nodup := sc_PageReader_read_key.nd
  have hu := hu_of hr
  unfold fb_PageReader_read_key
  exact (pps_one (pp_ret (pp_meth G_PageReader_read_bytes (hr.mono (by decide)) T.c_PageReader T.m_PageReader_read_bytes (passE (takes_of rfl rfl rfl rfl)) (pp_var 0) (pp_cons (pp_meth0 G_PageReader_read_byte (hr.mono (by decide)) T.c_PageReader T.m_PageReader_read_byte (passE (takes_of rfl rfl rfl rfl)) (pp_var 0)) pp_nil))))

theorem d_PageReader_read_entry {P : Program} {w : World} {K : PySem.W.Frag} {mg : Str → Option Value} {base : Heap} (T : Tx K mg) (G_PageReader_read_key : Con P w K mg base (L2.CX P w) 4 ("PageReader", some "read_key") ["self"] (spF K 1 f_PageReader_read_key)) (G_values_of : Con P w K mg base CX0 3 ("values_of", none) ["key"] (spF K 1 f_values_of)) (G_PageReader_need : Con P w K mg base (L2.CX P w) 1 ("PageReader", some "need") ["self", "holds"] (spF K 2 f_PageReader_need)) {cdv : Value} {A : Around} {outer : List PySem.Env} {s : Shared} {H : Hp} {E : XK} (hr : Room (4) (A.deeper (envOfC "PageReader.read_entry" (defScope s_PageReader_read_entry) s.heap.objs.size (He.fAd K ("PageReader", some "read_entry")) cdv))) :
    PSs (cxOf (L2.CX P w) P w K mg base ["self", "key", "value"] "PageReader.read_entry" (defScope s_PageReader_read_entry) (He.fAd K ("PageReader", some "read_entry")) cdv A outer s H E) (defBody s_PageReader_read_entry) (tS K (fun _ => E) fb_PageReader_read_entry) := by
  have nd : (["self", "key", "value"] : List Str).Nodup := sc_PageReader_read_entry.nd
  have hu := hu_of hr
  unfold fb_PageReader_read_entry
  exact (pps_cons (pp_set (n := 1) nd rfl (Or.inl rfl) (pp_meth0 G_PageReader_read_key (hr.mono (by decide)) T.c_PageReader T.m_PageReader_read_key (passE (takes_of rfl rfl rfl rfl)) (pp_var 0)))
  (pps_cons (pp_set (n := 2) nd rfl (Or.inl rfl) (pp_fcall G_values_of (hr.mono (by decide)) (by rfl) T.g_values_of passN (pp_cons (pp_meth0 G_PageReader_read_key (hr.mono (by decide)) T.c_PageReader T.m_PageReader_read_key (passE (takes_of rfl rfl rfl rfl)) (pp_var 0)) pp_nil)))
  (pps_cons (pp_expr (pp_meth G_PageReader_need (hr.mono (by decide)) T.c_PageReader T.m_PageReader_need (passE (takes_of rfl rfl rfl rfl)) (pp_var 0) (pp_cons (pp_cmp oNotNo p_notN (pp_var 2) (pp_c pe_non (fun _ _ _ => .non)) (nomark _)) pp_nil)))
  (pps_one (pp_ret (pp_tup (pp_cons (pp_var 1) (pp_cons (pp_var 2) pp_nil))))))))

theorem d_PageReader_read_child {P : Program} {w : World} {K : PySem.W.Frag} {mg : Str → Option Value} {base : Heap} (T : Tx K mg) (G_PageReader_read_byte : Con P w K mg base (L2.CX P w) 3 ("PageReader", some "read_byte") ["self"] (spF K 1 f_PageReader_read_byte)) (G_PageReader_read_key : Con P w K mg base (L2.CX P w) 4 ("PageReader", some "read_key") ["self"] (spF K 1 f_PageReader_read_key)) (G_PageReader_need : Con P w K mg base (L2.CX P w) 1 ("PageReader", some "need") ["self", "holds"] (spF K 2 f_PageReader_need)) {cdv : Value} {A : Around} {outer : List PySem.Env} {s : Shared} {H : Hp} {E : XK} (hr : Room (4) (A.deeper (envOfC "PageReader.read_child" (defScope s_PageReader_read_child) s.heap.objs.size (He.fAd K ("PageReader", some "read_child")) cdv))) :
    PSs (cxOf (L2.CX P w) P w K mg base ["self", "is_first", "number", "key"] "PageReader.read_child" (defScope s_PageReader_read_child) (He.fAd K ("PageReader", some "read_child")) cdv A outer s H E) (defBody s_PageReader_read_child) (tS K (fun _ => E) fb_PageReader_read_child) := by
  have nd : (["self", "is_first", "number", "key"] : List Str).Nodup := sc_PageReader_read_child.nd
  have hu := hu_of hr
  unfold fb_PageReader_read_child
  exact (pps_cons (pp_set (n := 2) nd rfl (Or.inl rfl) (pp_op o_mul (p_mul false) (pp_c pe_int (fun _ _ _ => .int _)) (pp_meth0 G_PageReader_read_byte (hr.mono (by decide)) T.c_PageReader T.m_PageReader_read_byte (passE (takes_of rfl rfl rfl rfl)) (pp_var 0))))
  (pps_cons (pp_aug (n := 2) nd rfl (Or.inl rfl) (pp_meth0 G_PageReader_read_byte (hr.mono (by decide)) T.c_PageReader T.m_PageReader_read_byte (passE (takes_of rfl rfl rfl rfl)) (pp_var 0)) ip_add p_ipadd)
  (pps_cons (pp_set (n := 3) nd rfl (Or.inl rfl) (pp_meth0 G_PageReader_read_key (hr.mono (by decide)) T.c_PageReader T.m_PageReader_read_key (passE (takes_of rfl rfl rfl rfl)) (pp_var 0)))
  (pps_cons (pp_expr (pp_meth G_PageReader_need (hr.mono (by decide)) T.c_PageReader T.m_PageReader_need (passE (takes_of rfl rfl rfl rfl)) (pp_var 0) (pp_cons (pp_orV (pp_cmp (o_eq hr.units) p_eq (pp_var 3) (pp_tup pp_nil) (nomark _)) (pp_one (pp_notV (pp_var 1)))) pp_nil)))
  (pps_one (pp_ret (pp_tup (pp_cons (pp_var 3) (pp_cons (pp_var 2) pp_nil)))))))))

theorem d_PageReader_read_end {P : Program} {w : World} {K : PySem.W.Frag} {mg : Str → Option Value} {base : Heap} (T : Tx K mg) (G_PageReader_need : Con P w K mg base (L2.CX P w) 1 ("PageReader", some "need") ["self", "holds"] (spF K 2 f_PageReader_need)) {cdv : Value} {A : Around} {outer : List PySem.Env} {s : Shared} {H : Hp} {E : XK} (hr : Room (1) (A.deeper (envOfC "PageReader.read_end" (defScope s_PageReader_read_end) s.heap.objs.size (He.fAd K ("PageReader", some "read_end")) cdv))) :
    PSs (cxOf (L2.CX P w) P w K mg base ["self"] "PageReader.read_end" (defScope s_PageReader_read_end) (He.fAd K ("PageReader", some "read_end")) cdv A outer s H E) (defBody s_PageReader_read_end) (tS K (fun _ => E) fb_PageReader_read_end) := by
  have nd : (["self"] : List Str).Nodup := sc_PageReader_read_end.nd
  have hu := hu_of hr
  unfold fb_PageReader_read_end
  exact (pps_one (pp_expr (pp_meth G_PageReader_need (hr.mono (by decide)) T.c_PageReader T.m_PageReader_need (passE (takes_of rfl rfl rfl rfl)) (pp_var 0) (pp_cons (pp_cmp (o_eq hr.units) p_eq (pp_slice false (pp_fld T.c_PageReader T.n_PageReader_data (pp_var 0)) (pp_part (pp_fld T.c_PageReader T.n_PageReader_at (pp_var 0))) pp_nopart) (pp_op o_mul (p_mul false) (pp_lst false (pp_cons (pp_c pe_int (fun _ _ _ => .int _)) pp_nil)) (pp_op oSubI p_sub (pp_callB c_len3 p_len (by rfl) T.f_len (by decide +kernel) (pp_cons (pp_fld T.c_PageReader T.n_PageReader_data (pp_var 0)) pp_nil)) (pp_fld T.c_PageReader T.n_PageReader_at (pp_var 0)))) (nomark _)) pp_nil))))

theorem d_read_page {P : Program} {w : World} {K : PySem.W.Frag} {mg : Str → Option Value} {base : Heap} (T : Tx K mg) (G_PageReader_init : Con P w K mg base CX0 1 ("PageReader", some "__init__") ["self", "data"] (spF K 2 f_PageReader_init)) (G_PageReader_need : Con P w K mg base (L2.CX P w) 1 ("PageReader", some "need") ["self", "holds"] (spF K 2 f_PageReader_need)) (G_PageReader_read_byte : Con P w K mg base (L2.CX P w) 3 ("PageReader", some "read_byte") ["self"] (spF K 1 f_PageReader_read_byte)) (G_PageReader_read_entry : Con P w K mg base (L2.CX P w) 5 ("PageReader", some "read_entry") ["self"] (spF K 1 f_PageReader_read_entry)) (G_PageReader_read_child : Con P w K mg base (L2.CX P w) 5 ("PageReader", some "read_child") ["self", "is_first"] (spF K 2 f_PageReader_read_child)) (G_PageReader_read_end : Con P w K mg base (L2.CX P w) 2 ("PageReader", some "read_end") ["self"] (spF K 1 f_PageReader_read_end)) {cdv : Value} {A : Around} {outer : List PySem.Env} {s : Shared} {H : Hp} {E : XK} (hr : Room (5) (A.deeper (envOfC "read_page" (defScope s_read_page) s.heap.objs.size (He.fAd K ("read_page", none)) cdv))) :
    PSs (cxOf (L2.CX P w) P w K mg base ["data", "reader", "kind", "count", "page", "_", "index"] "read_page" (defScope s_read_page) (He.fAd K ("read_page", none)) cdv A outer s H E) (defBody s_read_page) (tS K (fun _ => E) fb_read_page) := by
  have nd : (["data", "reader", "kind", "count", "page", "_", "index"] : List Str).Nodup := sc_read_page.nd
  have hu := hu_of hr
  unfold fb_read_page
  exact (pps_cons (pp_set (n := 1) nd rfl (Or.inr rfl) (pp_make G_PageReader_init T.k_PageReader (hr.mono (by decide)) (by rfl) T.g_PageReader passN (pp_cons (pp_var 0) pp_nil)))
  (pps_cons (pp_expr (pp_meth G_PageReader_need (hr.mono (by decide)) T.c_PageReader T.m_PageReader_need (passE (takes_of rfl rfl rfl rfl)) (pp_var 1) (pp_cons (pp_cmp (o_eq hr.units) p_eq (pp_callB c_len3 p_len (by rfl) T.f_len (by decide +kernel) (pp_cons (pp_fld T.c_PageReader T.n_PageReader_data (pp_var 1)) pp_nil)) (pp_c (pe_gi rfl T.i_PAGE) (fun _ _ _ => .int _)) (nomark _)) pp_nil)))
  (pps_cons (pp_set (n := 2) nd rfl (Or.inl rfl) (pp_meth0 G_PageReader_read_byte (hr.mono (by decide)) T.c_PageReader T.m_PageReader_read_byte (passE (takes_of rfl rfl rfl rfl)) (pp_var 1)))
  (pps_cons (pp_expr (pp_meth G_PageReader_need (hr.mono (by decide)) T.c_PageReader T.m_PageReader_need (passE (takes_of rfl rfl rfl rfl)) (pp_var 1) (pp_cons (pp_cmp (op_cm .le (u200 hr)) (p_cm .le) (pp_var 2) (pp_c (pe_gi rfl T.i_INNER) (fun _ _ _ => .int _)) (nomark _)) pp_nil)))
  (pps_cons (pp_set (n := 3) nd rfl (Or.inl rfl) (pp_meth0 G_PageReader_read_byte (hr.mono (by decide)) T.c_PageReader T.m_PageReader_read_byte (passE (takes_of rfl rfl rfl rfl)) (pp_var 1)))
  (pps_cons (pp_if (pp_tcmp (o_eq hr.units) p_eq (pp_var 2) (pp_c (pe_gi rfl T.i_LEAF) (fun _ _ _ => .int _)) (nomark _)) (pps_one (pp_set (n := 4) nd rfl (Or.inl rfl) (pp_tup (pp_cons (pp_c pe_str (fun _ _ _ => .str _)) (pp_cons (pp_callT cTupQ p_tuple (by rfl) T.f_tuple (by decide +kernel) (pp_cons (pp_lcX false (own := [("_", 5)]) (t := (.name 5)) rfl nd rfl rfl (takes_of rfl rfl rfl rfl) (pp_iR1 (by rfl) T.f_range (pp_cons (pp_var 3) pp_nil)) (blkOk_by (N := ["data", "reader", "kind", "count", "page", "_", "index"]) (sc := (defScope s_read_page)) (by decide +kernel)) (by decide) (fun _ _ _ _ _ _ => (pg_name (i := 5) nd rfl (Or.inl rfl))) (fun _ _ _ _ _ _ => pp_tnil) (fun _ _ _ _ _ _ hx => (pp_meth0 G_PageReader_read_entry (hr.mono (by decide)) T.c_PageReader T.m_PageReader_read_entry hx (pp_var 1)))) pp_nil)) pp_nil))))) (pps_one (pp_set (n := 4) nd rfl (Or.inl rfl) (pp_tup (pp_cons (pp_c pe_str (fun _ _ _ => .str _)) (pp_cons (pp_callT cTupQ p_tuple (by rfl) T.f_tuple (by decide +kernel) (pp_cons (pp_lcX false (own := [("index", 6)]) (t := (.name 6)) rfl nd rfl rfl (takes_of rfl rfl rfl rfl) (pp_iR1 (by rfl) T.f_range (pp_cons (pp_var 3) pp_nil)) (blkOk_by (N := ["data", "reader", "kind", "count", "page", "_", "index"]) (sc := (defScope s_read_page)) (by decide +kernel)) (by decide) (fun _ _ _ _ _ _ => (pg_name (i := 6) nd rfl (Or.inl rfl))) (fun _ _ _ _ _ _ => pp_tnil) (fun _ _ _ _ _ _ hx => (pp_meth G_PageReader_read_child (hr.mono (by decide)) T.c_PageReader T.m_PageReader_read_child hx (pp_var 1) (pp_cons (pp_cmp (o_eq hr.units) p_eq (pp_var 6) (pp_c pe_int (fun _ _ _ => .int _)) (nomark _)) pp_nil)))) pp_nil)) pp_nil))))))
  (pps_cons (pp_expr (pp_meth0 G_PageReader_read_end (hr.mono (by decide)) T.c_PageReader T.m_PageReader_read_end (passE (takes_of rfl rfl rfl rfl)) (pp_var 1)))
  (pps_one (pp_ret (pp_var 4))))))))))

theorem d_next {P : Program} {w : World} {K : PySem.W.Frag} {mg : Str → Option Value} {base : Heap} (T : Tx K mg) {cdv : Value} {A : Around} {outer : List PySem.Env} {s : Shared} {H : Hp} {E : XK} (hr : Room (0) (A.deeper (envOfC "_law_next" (defScope s_next) s.heap.objs.size (He.fAd K ("_law_next", none)) cdv))) :
    PSs (cxOf CX0 P w K mg base ["_law_state", "_law_limit", "_law_cell", "_law_value_here"] "_law_next" (defScope s_next) (He.fAd K ("_law_next", none)) cdv A outer s H E).nox (defBody s_next) (tS K (fun _ => E0) fb_next) := by
  have nd : (["_law_state", "_law_limit", "_law_cell", "_law_value_here"] : List Str).Nodup := sc_next.nd
  have hu := hu_of hr
  unfold fb_next
  exact (pps_cons (pp_if (PW.pt (pp_and (pp_tcmp (o_eq hr.units) p_eq (pp_ix (pp_var 0) (pp_c pe_int (fun _ _ _ => .int _)) (fun _ _ => rfl)) (pp_c pe_int (fun _ _ _ => .int _)) (nomark _)) (pp_and1 (pp_tcmp (op_cm .lt (u200 hr)) (p_cm .lt) (pp_ix (pp_var 0) (pp_c pe_int (fun _ _ _ => .int _)) (fun _ _ => rfl)) (pp_callB c_len3 p_len (by rfl) T.f_len (by decide +kernel) (pp_cons (pp_ix (pp_var 0) (pp_c pe_int (fun _ _ _ => .int _)) (fun _ _ => rfl)) pp_nil)) (nomark _))))) (pps_cons (pp_set (n := 2) nd rfl (Or.inl rfl) (pp_ix (pp_ix (pp_var 0) (pp_c pe_int (fun _ _ _ => .int _)) (fun _ _ => rfl)) (pp_ix (pp_var 0) (pp_c pe_int (fun _ _ _ => .int _)) (fun _ _ => rfl)) (fun _ _ => rfl)))
  (pps_cons (pp_augS (pp_var 0) (pp_c pe_int (fun _ _ _ => .int _)) (pp_c pe_int (fun _ _ _ => .int _)) ip_add p_ipadd)
  (pps_one (pp_if (pp_tcmp (op_cm .ge (u200 hr)) (p_cm .ge) (pp_var 2) (pp_op oPowI p_pow (pp_c pe_int (fun _ _ _ => .int _)) (pp_c pe_int (fun _ _ _ => .int _))) (nomark _)) (pps_one (pp_setS (pp_var 0) (pp_c pe_int (fun _ _ _ => .int _)) (pp_var 2))) (pps_one (pp_setS (pp_var 0) (pp_c pe_int (fun _ _ _ => .int _)) (pp_op oModI p_mod (pp_callT cInt1 p_int (by rfl) T.f_int (by decide +kernel) (pp_cons (pp_op o_add (p_add false) (pp_op o_add (p_add false) (pp_op o_mul (p_mul false) (pp_ix (pp_var 0) (pp_c pe_int (fun _ _ _ => .int _)) (fun _ _ => rfl)) (pp_c pe_int (fun _ _ _ => .int _))) (pp_op oModI p_mod (pp_callT cInt1 p_int (by rfl) T.f_int (by decide +kernel) (pp_cons (pp_var 2) pp_nil)) (pp_c pe_int (fun _ _ _ => .int _)))) (pp_c pe_int (fun _ _ _ => .int _))) pp_nil)) (pp_c pe_int (fun _ _ _ => .int _))))))))) pps_nil)
  (pps_cons (pp_if (pp_tcmp (op_cm .gt (u200 hr)) (p_cm .gt) (pp_ix (pp_var 0) (pp_c pe_int (fun _ _ _ => .int _)) (fun _ _ => rfl)) (pp_c pe_int (fun _ _ _ => .int _)) (nomark _)) (pps_cons (pp_set (n := 3) nd rfl (Or.inl rfl) (pp_op oModI p_mod (pp_callT cInt1 p_int (by rfl) T.f_int (by decide +kernel) (pp_cons (pp_ix (pp_var 0) (pp_c pe_int (fun _ _ _ => .int _)) (fun _ _ => rfl)) pp_nil)) (pp_var 1)))
  (pps_cons (pp_setS (pp_var 0) (pp_c pe_int (fun _ _ _ => .int _)) (pp_op oFdvI p_fdv (pp_ix (pp_var 0) (pp_c pe_int (fun _ _ _ => .int _)) (fun _ _ => rfl)) (pp_var 1)))
  (pps_one (pp_ret (pp_var 3))))) pps_nil)
  (pps_cons (pp_setS (pp_var 0) (pp_c pe_int (fun _ _ _ => .int _)) (pp_op oModI p_mod (pp_callT cInt1 p_int (by rfl) T.f_int (by decide +kernel) (pp_cons (pp_op o_add (p_add false) (pp_op o_mul (p_mul false) (pp_ix (pp_var 0) (pp_c pe_int (fun _ _ _ => .int _)) (fun _ _ => rfl)) (pp_c pe_int (fun _ _ _ => .int _))) (pp_c pe_int (fun _ _ _ => .int _))) pp_nil)) (pp_c pe_int (fun _ _ _ => .int _))))
  (pps_one (pp_ret (pp_op oModI p_mod (pp_callT cInt1 p_int (by rfl) T.f_int (by decide +kernel) (pp_cons (pp_op oFdvI p_fdv (pp_ix (pp_var 0) (pp_c pe_int (fun _ _ _ => .int _)) (fun _ _ => rfl)) (pp_c pe_int (fun _ _ _ => .int _))) pp_nil)) (pp_var 1)))))))

theorem d_same (n : Nat) {P : Program} {w : World} {K : PySem.W.Frag} {mg : Str → Option Value} {base : Heap} (T : Tx K mg) (G_same : Con P w K mg base CX0 n ("_law_same", none) ["_law_actual", "_law_expected"] (spF K 2 (f_same n))) {cdv : Value} {A : Around} {outer : List PySem.Env} {s : Shared} {H : Hp} {E : XK} (hr : Room (n) (A.deeper (envOfC "_law_same" (defScope s_same) s.heap.objs.size (He.fAd K ("_law_same", none)) cdv))) :
    PSs (cxOf CX0 P w K mg base ["_law_actual", "_law_expected", "_law_k"] "_law_same" (defScope s_same) (He.fAd K ("_law_same", none)) cdv A outer s H E).nox (defBody s_same) (tS K (fun _ => E0) (fb_same (fun _ => f_same n) n)) := by
  have nd : (["_law_actual", "_law_expected", "_law_k"] : List Str).Nodup := sc_same.nd
  have hu := hu_of hr
  unfold fb_same
  exact (pps_cons (pp_if (pp_tcmp oIsNo p_isN (pp_var 1) (pp_c pe_non (fun _ _ _ => .non)) (nomark _)) (pps_one (pp_ret (pp_cmp oIsNo p_isN (pp_var 0) (pp_c pe_non (fun _ _ _ => .non)) (nomark _)))) pps_nil)
  (pps_cons (pp_if (pp_tru (pp_callB call_isi p_isi (by rfl) T.f_isinstance (by decide +kernel) (pp_cons (pp_var 1) (pp_cons (pp_c (pe_bltn (v := .ty "bool") (by rfl) T.f_bool (by decide +kernel) rfl) (fun _ _ _ => .ty _)) pp_nil)))) (pps_one (pp_ret (pp_andV (pp_callB call_isi p_isi (by rfl) T.f_isinstance (by decide +kernel) (pp_cons (pp_var 0) (pp_cons (pp_c (pe_bltn (v := .ty "bool") (by rfl) T.f_bool (by decide +kernel) rfl) (fun _ _ _ => .ty _)) pp_nil))) (pp_one (pp_cmp (o_eq hr.units) p_eq (pp_var 0) (pp_var 1) (nomark _)))))) pps_nil)
  (pps_cons (pp_if (pp_tru (pp_callB call_isi p_isi (by rfl) T.f_isinstance (by decide +kernel) (pp_cons (pp_var 1) (pp_cons (pp_c (pe_bltn (v := .ty "int") (by rfl) T.f_int (by decide +kernel) rfl) (fun _ _ _ => .ty _)) pp_nil)))) (pps_one (pp_ret (pp_andV (pp_callB call_isi p_isi (by rfl) T.f_isinstance (by decide +kernel) (pp_cons (pp_var 0) (pp_cons (pp_c (pe_bltn (v := .ty "int") (by rfl) T.f_int (by decide +kernel) rfl) (fun _ _ _ => .ty _)) pp_nil))) (pp_andV (pp_notV (pp_callB call_isi p_isi (by rfl) T.f_isinstance (by decide +kernel) (pp_cons (pp_var 0) (pp_cons (pp_c (pe_bltn (v := .ty "bool") (by rfl) T.f_bool (by decide +kernel) rfl) (fun _ _ _ => .ty _)) pp_nil)))) (pp_one (pp_cmp (o_eq hr.units) p_eq (pp_var 0) (pp_var 1) (nomark _))))))) pps_nil)
  (pps_cons (pp_if (pp_tru (pp_callB call_isi p_isi (by rfl) T.f_isinstance (by decide +kernel) (pp_cons (pp_var 1) (pp_cons (pp_c (pe_bltn (v := .ty "str") (by rfl) T.f_str (by decide +kernel) rfl) (fun _ _ _ => .ty _)) pp_nil)))) (pps_one (pp_ret (pp_andV (pp_callB call_isi p_isi (by rfl) T.f_isinstance (by decide +kernel) (pp_cons (pp_var 0) (pp_cons (pp_c (pe_bltn (v := .ty "str") (by rfl) T.f_str (by decide +kernel) rfl) (fun _ _ _ => .ty _)) pp_nil))) (pp_one (pp_cmp (o_eq hr.units) p_eq (pp_var 0) (pp_var 1) (nomark _)))))) pps_nil)
  (pps_cons (pp_if (PW.pt (pp_and (pp_tru (pp_callB call_isi p_isi (by rfl) T.f_isinstance (by decide +kernel) (pp_cons (pp_var 1) (pp_cons (pp_c (pe_bltn (v := .ty "tuple") (by rfl) T.f_tuple (by decide +kernel) rfl) (fun _ _ _ => .ty _)) pp_nil)))) (pp_and1 (pp_not (pp_tru (pp_callB call_isi p_isi (by rfl) T.f_isinstance (by decide +kernel) (pp_cons (pp_var 0) (pp_cons (pp_c (pe_bltn (v := .ty "tuple") (by rfl) T.f_tuple (by decide +kernel) rfl) (fun _ _ _ => .ty _)) pp_nil)))))))) (pps_one (pp_ret (pp_c pe_bl (fun _ _ _ => .bl _)))) pps_nil)
  (pps_cons (pp_if (PW.pt (pp_and (pp_tru (pp_callB call_isi p_isi (by rfl) T.f_isinstance (by decide +kernel) (pp_cons (pp_var 1) (pp_cons (pp_c (pe_bltn (v := .ty "list") (by rfl) T.f_list (by decide +kernel) rfl) (fun _ _ _ => .ty _)) pp_nil)))) (pp_and1 (pp_not (pp_tru (pp_callB call_isi p_isi (by rfl) T.f_isinstance (by decide +kernel) (pp_cons (pp_var 0) (pp_cons (pp_c (pe_bltn (v := .ty "list") (by rfl) T.f_list (by decide +kernel) rfl) (fun _ _ _ => .ty _)) pp_nil)))))))) (pps_one (pp_ret (pp_c pe_bl (fun _ _ _ => .bl _)))) pps_nil)
  (pps_cons (pp_if (pp_tcmp (o_ne hr.units) p_ne (pp_callB c_len3 p_len (by rfl) T.f_len (by decide +kernel) (pp_cons (pp_var 0) pp_nil)) (pp_callB c_len3 p_len (by rfl) T.f_len (by decide +kernel) (pp_cons (pp_var 1) pp_nil)) (nomark _)) (pps_one (pp_ret (pp_c pe_bl (fun _ _ _ => .bl _)))) pps_nil)
  (pps_cons (pp_for (t := (.name 2)) PassesOwn.never rfl (pp_iR1 (by rfl) T.f_range (pp_cons (pp_callB c_len3 p_len (by rfl) T.f_len (by decide +kernel) (pp_cons (pp_var 1) pp_nil)) pp_nil)) (pg_name (i := 2) nd rfl (Or.inl rfl)) (pps_one (pp_if (pp_not (pp_tru (pp_fcall G_same hr (by rfl) T.g_same passN (pp_cons (pp_ix (pp_var 0) (pp_var 2) (fun _ _ => rfl)) (pp_cons (pp_ix (pp_var 1) (pp_var 2) (fun _ _ => rfl)) pp_nil))))) (pps_one (pp_ret (pp_c pe_bl (fun _ _ _ => .bl _)))) pps_nil)))
  (pps_one (pp_ret (pp_c pe_bl (fun _ _ _ => .bl _))))))))))))

theorem d_value {P : Program} {w : World} {K : PySem.W.Frag} {mg : Str → Option Value} {base : Heap} (T : Tx K mg) (G_next : Con P w K mg base CX0 1 ("_law_next", none) ["_law_state", "_law_limit"] (spF K 2 f_next)) (G_characters : Con P w K mg base CX0 1 ("_law_characters", none) [] (spF K 0 f_characters)) {cdv : Value} {A : Around} {outer : List PySem.Env} {s : Shared} {H : Hp} {E : XK} (hr : Room (1) (A.deeper (envOfC "_law_value" (defScope s_value) s.heap.objs.size (He.fAd K ("_law_value", none)) cdv))) :
    PSs (cxOf CX0 P w K mg base ["_law_state", "_law_pick", "_law_start", "_law_step", "_law_j"] "_law_value" (defScope s_value) (He.fAd K ("_law_value", none)) cdv A outer s H E).nox (defBody s_value) (tS K (fun _ => E0) fb_value) := by
  have nd : (["_law_state", "_law_pick", "_law_start", "_law_step", "_law_j"] : List Str).Nodup := sc_value.nd
  have hu := hu_of hr
  unfold fb_value
  exact (pps_cons (pp_set (n := 1) nd rfl (Or.inl rfl) (pp_fcall G_next (hr.mono (by decide)) (by rfl) T.g_next passN (pp_cons (pp_var 0) (pp_cons (pp_c pe_int (fun _ _ _ => .int _)) pp_nil))))
  (pps_cons (pp_if (pp_tcmp (op_cm .lt (u200 hr)) (p_cm .lt) (pp_var 1) (pp_c pe_int (fun _ _ _ => .int _)) (nomark _)) (pps_one (pp_ret (pp_ix (pp_lst false (pp_cons (pp_c pe_int (fun _ _ _ => .int _)) (pp_cons (pp_c pe_int (fun _ _ _ => .int _)) (pp_cons (pp_c pe_int (fun _ _ _ => .int _)) (pp_cons (pp_neg (pp_c pe_int (fun _ _ _ => .int _))) (pp_cons (pp_c pe_int (fun _ _ _ => .int _)) pp_nil)))))) (pp_var 1) (fun _ _ => rfl)))) pps_nil)
  (pps_cons (pp_if (pp_tcmp (o_eq hr.units) p_eq (pp_var 1) (pp_c pe_int (fun _ _ _ => .int _)) (nomark _)) (pps_one (pp_ret (pp_op o_mul (p_mul false) (pp_op oSubI p_sub (pp_c pe_int (fun _ _ _ => .int _)) (pp_op o_mul (p_mul false) (pp_c pe_int (fun _ _ _ => .int _)) (pp_fcall G_next (hr.mono (by decide)) (by rfl) T.g_next passN (pp_cons (pp_var 0) (pp_cons (pp_c pe_int (fun _ _ _ => .int _)) pp_nil))))) (pp_op oSubI p_sub (pp_op oPowI p_pow (pp_c pe_int (fun _ _ _ => .int _)) (pp_c pe_int (fun _ _ _ => .int _))) (pp_fcall G_next (hr.mono (by decide)) (by rfl) T.g_next passN (pp_cons (pp_var 0) (pp_cons (pp_c pe_int (fun _ _ _ => .int _)) pp_nil))))))) pps_nil)
  (pps_cons (pp_if (pp_tcmp (o_eq hr.units) p_eq (pp_var 1) (pp_c pe_int (fun _ _ _ => .int _)) (nomark _)) (pps_one (pp_ret (pp_op oSubI p_sub (pp_fcall G_next (hr.mono (by decide)) (by rfl) T.g_next passN (pp_cons (pp_var 0) (pp_cons (pp_op o_add (p_add false) (pp_op o_mul (p_mul false) (pp_c pe_int (fun _ _ _ => .int _)) (pp_op oPowI p_pow (pp_c pe_int (fun _ _ _ => .int _)) (pp_c pe_int (fun _ _ _ => .int _)))) (pp_c pe_int (fun _ _ _ => .int _))) pp_nil))) (pp_op oPowI p_pow (pp_c pe_int (fun _ _ _ => .int _)) (pp_c pe_int (fun _ _ _ => .int _)))))) pps_nil)
  (pps_cons (pp_if (pp_tcmp (op_cm .lt (u200 hr)) (p_cm .lt) (pp_var 1) (pp_c pe_int (fun _ _ _ => .int _)) (nomark _)) (pps_one (pp_ret (pp_ix (pp_lst false (pp_cons (pp_c pe_str (fun _ _ _ => .str _)) (pp_cons (pp_c pe_str (fun _ _ _ => .str _)) (pp_cons (pp_c pe_str (fun _ _ _ => .str _)) (pp_cons (pp_c pe_str (fun _ _ _ => .str _)) pp_nil))))) (pp_op o_add (p_add false) (pp_op oSubI p_sub (pp_var 1) (pp_c pe_int (fun _ _ _ => .int _))) (pp_op o_mul (p_mul false) (pp_callT cInt1 p_int (by rfl) T.f_int (by decide +kernel) (pp_cons (pp_cmp (o_eq hr.units) p_eq (pp_fcall G_next (hr.mono (by decide)) (by rfl) T.g_next passN (pp_cons (pp_var 0) (pp_cons (pp_c pe_int (fun _ _ _ => .int _)) pp_nil))) (pp_c pe_int (fun _ _ _ => .int _)) (nomark _)) pp_nil)) (pp_op o_add (p_add false) (pp_op oSubI p_sub (pp_c pe_int (fun _ _ _ => .int _)) (pp_var 1)) (pp_c pe_int (fun _ _ _ => .int _))))) (fun _ _ => rfl)))) pps_nil)
  (pps_cons (pp_set (n := 2) nd rfl (Or.inr rfl) (pp_fcall G_next (hr.mono (by decide)) (by rfl) T.g_next passN (pp_cons (pp_var 0) (pp_cons (pp_c pe_int (fun _ _ _ => .int _)) pp_nil))))
  (pps_cons (pp_set (n := 3) nd rfl (Or.inr rfl) (pp_fcall G_next (hr.mono (by decide)) (by rfl) T.g_next passN (pp_cons (pp_var 0) (pp_cons (pp_c pe_int (fun _ _ _ => .int _)) pp_nil))))
  (pps_one (pp_ret (pp_join (pp_c pe_str (fun _ _ _ => .str _)) (pp_lc false (own := [("_law_j", 4)]) (t := (.name 4)) rfl nd (pp_iR1 (by rfl) T.f_range (pp_cons (pp_fcall G_next (hr.mono (by decide)) (by rfl) T.g_next passN (pp_cons (pp_var 0) (pp_cons (pp_c pe_int (fun _ _ _ => .int _)) pp_nil))) pp_nil)) (blkOk_by (N := ["_law_state", "_law_pick", "_law_start", "_law_step", "_law_j"]) (sc := (defScope s_value)) (by decide +kernel)) (by decide) (fun _ _ _ _ _ => (pg_name (i := 4) nd rfl (Or.inl rfl))) (fun _ _ _ _ _ => pp_tnil) (fun _ _ _ _ _ => (pp_ix (pp_fcall0 G_characters (hr.mono (by decide)) (by rfl) T.g_characters passN) (pp_op oModI p_mod (pp_op o_add (p_add false) (pp_var 2) (pp_op o_mul (p_mul false) (pp_var 3) (pp_var 4))) (pp_c pe_int (fun _ _ _ => .int _))) (fun _ _ => rfl))))))))))))))

theorem d_characters {P : Program} {w : World} {K : PySem.W.Frag} {mg : Str → Option Value} {base : Heap} (T : Tx K mg) {cdv : Value} {A : Around} {outer : List PySem.Env} {s : Shared} {H : Hp} {E : XK} (hr : Room (0) (A.deeper (envOfC "_law_characters" (defScope s_characters) s.heap.objs.size (He.fAd K ("_law_characters", none)) cdv))) :
    PSs (cxOf CX0 P w K mg base [] "_law_characters" (defScope s_characters) (He.fAd K ("_law_characters", none)) cdv A outer s H E).nox (defBody s_characters) (tS K (fun _ => E0) fb_characters) := by
  have nd : ([] : List Str).Nodup := sc_characters.nd
  have hu := hu_of hr
  unfold fb_characters
  exact (pps_one (pp_ret (pp_c pe_str (fun _ _ _ => .str _))))

theorem d_bytes {P : Program} {w : World} {K : PySem.W.Frag} {mg : Str → Option Value} {base : Heap} (T : Tx K mg) (G_characters : Con P w K mg base CX0 1 ("_law_characters", none) [] (spF K 0 f_characters)) {cdv : Value} {A : Around} {outer : List PySem.Env} {s : Shared} {H : Hp} {E : XK} (hr : Room (1) (A.deeper (envOfC "_law_bytes" (defScope s_bytes) s.heap.objs.size (He.fAd K ("_law_bytes", none)) cdv))) :
    PSs (cxOf CX0 P w K mg base ["_law_values", "_law_data", "_law_value_here", "_law_chars", "_law_number", "_law_five", "_law_k", "_law_each"] "_law_bytes" (defScope s_bytes) (He.fAd K ("_law_bytes", none)) cdv A outer s H E).nox (defBody s_bytes) (tS K (fun _ => E0) fb_bytes) := by
  have nd : (["_law_values", "_law_data", "_law_value_here", "_law_chars", "_law_number", "_law_five", "_law_k", "_law_each"] : List Str).Nodup := sc_bytes.nd
  have hu := hu_of hr
  unfold fb_bytes
  exact (pps_cons (pp_set (n := 1) nd rfl (Or.inl rfl) (pp_lst false pp_nil))
  (pps_cons (pp_for (t := (.name 2)) PassesOwn.never rfl (pp_iSeq (pp_var 0)) (pg_name (i := 2) nd rfl (Or.inl rfl)) (pps_one (pp_if (pp_tru (pp_callB call_isi p_isi (by rfl) T.f_isinstance (by decide +kernel) (pp_cons (pp_var 2) (pp_cons (pp_c (pe_bltn (v := .ty "str") (by rfl) T.f_str (by decide +kernel) rfl) (fun _ _ _ => .ty _)) pp_nil)))) (pps_cons (pp_set (n := 3) nd rfl (Or.inr rfl) (pp_fcall0 G_characters (hr.mono (by decide)) (by rfl) T.g_characters passN))
  (pps_one (pp_set (n := 1) nd rfl (Or.inl rfl) (pp_op o_add (p_add false) (pp_op o_add (p_add false) (pp_op o_add (p_add false) (pp_var 1) (pp_lst false (pp_cons (pp_c pe_int (fun _ _ _ => .int _)) pp_nil))) (pp_lc false (own := [("_law_each", 7)]) (t := (.name 7)) rfl nd (pp_iSeq (pp_var 2)) (blkOk_by (N := ["_law_values", "_law_data", "_law_value_here", "_law_chars", "_law_number", "_law_five", "_law_k", "_law_each"]) (sc := (defScope s_bytes)) (by decide +kernel)) (by decide) (fun _ _ _ _ _ => (pg_name (i := 7) nd rfl (Or.inl rfl))) (fun _ _ _ _ _ => pp_tnil) (fun _ _ _ _ _ => (pp_op o_add (p_add false) (pp_op o_add (p_add false) (pp_c pe_int (fun _ _ _ => .int _)) (pp_index (pp_var 3) (pp_cons (pp_var 7) pp_nil))) (pp_callT cInt1 p_int (by rfl) T.f_int (by decide +kernel) (pp_cons (pp_cmp (op_cm .gt (u200 hr)) (p_cm .gt) (pp_index (pp_var 3) (pp_cons (pp_var 7) pp_nil)) (pp_c pe_int (fun _ _ _ => .int _)) (nomark _)) pp_nil)))))) (pp_lst false (pp_cons (pp_c pe_int (fun _ _ _ => .int _)) pp_nil)))))) (pps_cons (pp_set (n := 4) nd rfl (Or.inl rfl) (pp_op o_add (p_add false) (pp_var 2) (pp_c pe_int (fun _ _ _ => .int _))))
  (pps_cons (pp_set (n := 5) nd rfl (Or.inl rfl) (pp_lst false pp_nil))
  (pps_cons (pp_for (t := (.name 6)) PassesOwn.never rfl (pp_iR1 (by rfl) T.f_range (pp_cons (pp_c pe_int (fun _ _ _ => .int _)) pp_nil)) (pg_name (i := 6) nd rfl (Or.inl rfl)) (pps_cons (pp_set (n := 5) nd rfl (Or.inl rfl) (pp_op o_add (p_add false) (pp_lst false (pp_cons (pp_op oModI p_mod (pp_callT cInt1 p_int (by rfl) T.f_int (by decide +kernel) (pp_cons (pp_var 4) pp_nil)) (pp_c pe_int (fun _ _ _ => .int _))) pp_nil)) (pp_var 5)))
  (pps_one (pp_set (n := 4) nd rfl (Or.inl rfl) (pp_op oFdvI p_fdv (pp_var 4) (pp_c pe_int (fun _ _ _ => .int _)))))))
  (pps_one (pp_set (n := 1) nd rfl (Or.inl rfl) (pp_op o_add (p_add false) (pp_op o_add (p_add false) (pp_var 1) (pp_lst false (pp_cons (pp_c pe_int (fun _ _ _ => .int _)) pp_nil))) (pp_var 5))))))))))
  (pps_one (pp_ret (pp_callT cTupQ p_tuple (by rfl) T.f_tuple (by decide +kernel) (pp_cons (pp_var 1) pp_nil))))))

theorem d_page_bytes {P : Program} {w : World} {K : PySem.W.Frag} {mg : Str → Option Value} {base : Heap} (T : Tx K mg) (G_bytes : Con P w K mg base CX0 2 ("_law_bytes", none) ["_law_values"] (spF K 1 f_bytes)) {cdv : Value} {A : Around} {outer : List PySem.Env} {s : Shared} {H : Hp} {E : XK} (hr : Room (2) (A.deeper (envOfC "_law_page_bytes" (defScope s_page_bytes) s.heap.objs.size (He.fAd K ("_law_page_bytes", none)) cdv))) :
    PSs (cxOf CX0 P w K mg base ["_law_page_here", "_law_data", "_law_key_here", "_law_what", "_law_value_here"] "_law_page_bytes" (defScope s_page_bytes) (He.fAd K ("_law_page_bytes", none)) cdv A outer s H E).nox (defBody s_page_bytes) (tS K (fun _ => E0) fb_page_bytes) := by
  have nd : (["_law_page_here", "_law_data", "_law_key_here", "_law_what", "_law_value_here"] : List Str).Nodup := sc_page_bytes.nd
  have hu := hu_of hr
  unfold fb_page_bytes
  exact (pps_cons (pp_set (n := 1) nd rfl (Or.inl rfl) (pp_lst false (pp_cons (pp_callT cInt1 p_int (by rfl) T.f_int (by decide +kernel) (pp_cons (pp_cmp (o_eq hr.units) p_eq (pp_ix (pp_var 0) (pp_c pe_int (fun _ _ _ => .int _)) (fun _ _ => rfl)) (pp_c pe_str (fun _ _ _ => .str _)) (nomark _)) pp_nil)) (pp_cons (pp_callB c_len3 p_len (by rfl) T.f_len (by decide +kernel) (pp_cons (pp_ix (pp_var 0) (pp_c pe_int (fun _ _ _ => .int _)) (fun _ _ => rfl)) pp_nil)) pp_nil))))
  (pps_cons (pp_for (t := (.tup (.cons (.name 2) (.cons (.name 3) TgL.nil)))) PassesOwn.never rfl (pp_iSeq (pp_ix (pp_var 0) (pp_c pe_int (fun _ _ _ => .int _)) (fun _ _ => rfl))) (pg_tup rfl (pgs_cons (pg_name (i := 2) nd rfl (Or.inl rfl)) (pgs_cons (pg_name (i := 3) nd rfl (Or.inl rfl)) pgs_nil))) (pps_one (pp_if (pp_tcmp (o_eq hr.units) p_eq (pp_ix (pp_var 0) (pp_c pe_int (fun _ _ _ => .int _)) (fun _ _ => rfl)) (pp_c pe_str (fun _ _ _ => .str _)) (nomark _)) (pps_one (pp_set (n := 1) nd rfl (Or.inl rfl) (pp_op o_add (p_add false) (pp_op o_add (p_add false) (pp_var 1) (pp_lst false (pp_cons (pp_op oFdvI p_fdv (pp_var 3) (pp_c pe_int (fun _ _ _ => .int _))) (pp_cons (pp_op oModI p_mod (pp_var 3) (pp_c pe_int (fun _ _ _ => .int _))) (pp_cons (pp_callB c_len3 p_len (by rfl) T.f_len (by decide +kernel) (pp_cons (pp_var 2) pp_nil)) pp_nil))))) (pp_callT cListQ (p_list false) (by rfl) T.f_list (by decide +kernel) (pp_cons (pp_var 2) pp_nil))))) (pps_cons (pp_set (n := 4) nd rfl (Or.inl rfl) (pp_callT cListQ (p_list false) (by rfl) T.f_list (by decide +kernel) (pp_cons (pp_fcall G_bytes (hr.mono (by decide)) (by rfl) T.g_bytes passN (pp_cons (pp_var 3) pp_nil)) pp_nil)))
  (pps_one (pp_set (n := 1) nd rfl (Or.inl rfl) (pp_op o_add (p_add false) (pp_op o_add (p_add false) (pp_op o_add (p_add false) (pp_op o_add (p_add false) (pp_var 1) (pp_lst false (pp_cons (pp_callB c_len3 p_len (by rfl) T.f_len (by decide +kernel) (pp_cons (pp_var 2) pp_nil)) pp_nil))) (pp_callT cListQ (p_list false) (by rfl) T.f_list (by decide +kernel) (pp_cons (pp_var 2) pp_nil))) (pp_lst false (pp_cons (pp_callB c_len3 p_len (by rfl) T.f_len (by decide +kernel) (pp_cons (pp_var 4) pp_nil)) pp_nil))) (pp_var 4))))))))
  (pps_cons (pp_if (pp_tcmp (op_cm .gt (u200 hr)) (p_cm .gt) (pp_callB c_len3 p_len (by rfl) T.f_len (by decide +kernel) (pp_cons (pp_var 1) pp_nil)) (pp_c pe_int (fun _ _ _ => .int _)) (nomark _)) (pps_one (pp_ret (pp_c pe_non (fun _ _ _ => .non)))) pps_nil)
  (pps_one (pp_ret (pp_op o_add (p_add false) (pp_var 1) (pp_op o_mul (p_mul false) (pp_lst false (pp_cons (pp_c pe_int (fun _ _ _ => .int _)) pp_nil)) (pp_op oSubI p_sub (pp_c pe_int (fun _ _ _ => .int _)) (pp_callB c_len3 p_len (by rfl) T.f_len (by decide +kernel) (pp_cons (pp_var 1) pp_nil))))))))))

theorem d_key {P : Program} {w : World} {K : PySem.W.Frag} {mg : Str → Option Value} {base : Heap} (T : Tx K mg) (G_next : Con P w K mg base CX0 1 ("_law_next", none) ["_law_state", "_law_limit"] (spF K 2 f_next)) (G_bytes : Con P w K mg base CX0 2 ("_law_bytes", none) ["_law_values"] (spF K 1 f_bytes)) (G_value : Con P w K mg base CX0 2 ("_law_value", none) ["_law_state"] (spF K 1 f_value)) {cdv : Value} {A : Around} {outer : List PySem.Env} {s : Shared} {H : Hp} {E : XK} (hr : Room (2) (A.deeper (envOfC "_law_key" (defScope s_key) s.heap.objs.size (He.fAd K ("_law_key", none)) cdv))) :
    PSs (cxOf CX0 P w K mg base ["_law_state", "_law_start", "_law_j"] "_law_key" (defScope s_key) (He.fAd K ("_law_key", none)) cdv A outer s H E).nox (defBody s_key) (tS K (fun _ => E0) fb_key) := by
  have nd : (["_law_state", "_law_start", "_law_j"] : List Str).Nodup := sc_key.nd
  have hu := hu_of hr
  unfold fb_key
  exact (pps_cons (pp_if (pp_tcmp (o_eq hr.units) p_eq (pp_fcall G_next (hr.mono (by decide)) (by rfl) T.g_next passN (pp_cons (pp_var 0) (pp_cons (pp_c pe_int (fun _ _ _ => .int _)) pp_nil))) (pp_c pe_int (fun _ _ _ => .int _)) (nomark _)) (pps_cons (pp_set (n := 1) nd rfl (Or.inr rfl) (pp_fcall G_next (hr.mono (by decide)) (by rfl) T.g_next passN (pp_cons (pp_var 0) (pp_cons (pp_c pe_int (fun _ _ _ => .int _)) pp_nil))))
  (pps_one (pp_ret (pp_callT cTupQ p_tuple (by rfl) T.f_tuple (by decide +kernel) (pp_cons (pp_lc false (own := [("_law_j", 2)]) (t := (.name 2)) rfl nd (pp_iR1 (by rfl) T.f_range (pp_cons (pp_fcall G_next (hr.mono (by decide)) (by rfl) T.g_next passN (pp_cons (pp_var 0) (pp_cons (pp_c pe_int (fun _ _ _ => .int _)) pp_nil))) pp_nil)) (blkOk_by (N := ["_law_state", "_law_start", "_law_j"]) (sc := (defScope s_key)) (by decide +kernel)) (by decide) (fun _ _ _ _ _ => (pg_name (i := 2) nd rfl (Or.inl rfl))) (fun _ _ _ _ _ => pp_tnil) (fun _ _ _ _ _ => (pp_op oModI p_mod (pp_op o_add (p_add false) (pp_var 1) (pp_op o_mul (p_mul false) (pp_c pe_int (fun _ _ _ => .int _)) (pp_var 2))) (pp_c pe_int (fun _ _ _ => .int _))))) pp_nil))))) pps_nil)
  (pps_one (pp_ret (pp_fcall G_bytes (hr.mono (by decide)) (by rfl) T.g_bytes passN (pp_cons (pp_callT cTupQ p_tuple (by rfl) T.f_tuple (by decide +kernel) (pp_cons (pp_lc false (own := [("_law_j", 2)]) (t := (.name 2)) rfl nd (pp_iR1 (by rfl) T.f_range (pp_cons (pp_fcall G_next (hr.mono (by decide)) (by rfl) T.g_next passN (pp_cons (pp_var 0) (pp_cons (pp_c pe_int (fun _ _ _ => .int _)) pp_nil))) pp_nil)) (blkOk_by (N := ["_law_state", "_law_start", "_law_j"]) (sc := (defScope s_key)) (by decide +kernel)) (by decide) (fun _ _ _ _ _ => (pg_name (i := 2) nd rfl (Or.inl rfl))) (fun _ _ _ _ _ => pp_tnil) (fun _ _ _ _ _ => (pp_fcall G_value (hr.mono (by decide)) (by rfl) T.g_value passN (pp_cons (pp_var 0) pp_nil)))) pp_nil)) pp_nil)))))

theorem d_page {P : Program} {w : World} {K : PySem.W.Frag} {mg : Str → Option Value} {base : Heap} (T : Tx K mg) (G_next : Con P w K mg base CX0 1 ("_law_next", none) ["_law_state", "_law_limit"] (spF K 2 f_next)) (G_key : Con P w K mg base CX0 3 ("_law_key", none) ["_law_state"] (spF K 1 f_key)) (G_value : Con P w K mg base CX0 2 ("_law_value", none) ["_law_state"] (spF K 1 f_value)) {cdv : Value} {A : Around} {outer : List PySem.Env} {s : Shared} {H : Hp} {E : XK} (hr : Room (3) (A.deeper (envOfC "_law_page" (defScope s_page) s.heap.objs.size (He.fAd K ("_law_page", none)) cdv))) :
    PSs (cxOf CX0 P w K mg base ["_law_state", "_law_entries", "_law_k", "_law_children", "_law_key_here", "_law_j"] "_law_page" (defScope s_page) (He.fAd K ("_law_page", none)) cdv A outer s H E).nox (defBody s_page) (tS K (fun _ => E0) fb_page) := by
  have nd : (["_law_state", "_law_entries", "_law_k", "_law_children", "_law_key_here", "_law_j"] : List Str).Nodup := sc_page.nd
  have hu := hu_of hr
  unfold fb_page
  exact (pps_cons (pp_if (pp_tcmp (o_eq hr.units) p_eq (pp_fcall G_next (hr.mono (by decide)) (by rfl) T.g_next passN (pp_cons (pp_var 0) (pp_cons (pp_c pe_int (fun _ _ _ => .int _)) pp_nil))) (pp_c pe_int (fun _ _ _ => .int _)) (nomark _)) (pps_cons (pp_set (n := 1) nd rfl (Or.inl rfl) (pp_lst true pp_nil))
  (pps_cons (pp_for (t := (.name 2)) PassesOwn.never rfl (pp_iR1 (by rfl) T.f_range (pp_cons (pp_fcall G_next (hr.mono (by decide)) (by rfl) T.g_next passN (pp_cons (pp_var 0) (pp_cons (pp_c pe_int (fun _ _ _ => .int _)) pp_nil))) pp_nil)) (pg_name (i := 2) nd rfl (Or.inl rfl)) (pps_one (pp_expr (pp_mt PySem.F.plainAttrs_list PySem.F.slot_list_append PySem.F.type_list_append mt_append ty_list p_append (pp_var 1) (pp_cons (pp_tup (pp_cons (pp_fcall G_key (hr.mono (by decide)) (by rfl) T.g_key passN (pp_cons (pp_var 0) pp_nil)) (pp_cons (pp_callT cTupQ p_tuple (by rfl) T.f_tuple (by decide +kernel) (pp_cons (pp_lc false (own := [("_law_j", 5)]) (t := (.name 5)) rfl nd (pp_iR1 (by rfl) T.f_range (pp_cons (pp_fcall G_next (hr.mono (by decide)) (by rfl) T.g_next passN (pp_cons (pp_var 0) (pp_cons (pp_c pe_int (fun _ _ _ => .int _)) pp_nil))) pp_nil)) (blkOk_by (N := ["_law_state", "_law_entries", "_law_k", "_law_children", "_law_key_here", "_law_j"]) (sc := (defScope s_page)) (by decide +kernel)) (by decide) (fun _ _ _ _ _ => (pg_name (i := 5) nd rfl (Or.inl rfl))) (fun _ _ _ _ _ => pp_tnil) (fun _ _ _ _ _ => (pp_fcall G_value (hr.mono (by decide)) (by rfl) T.g_value passN (pp_cons (pp_var 0) pp_nil)))) pp_nil)) pp_nil))) pp_nil)))))
  (pps_one (pp_ret (pp_tup (pp_cons (pp_c pe_str (fun _ _ _ => .str _)) (pp_cons (pp_callT cTupQ p_tuple (by rfl) T.f_tuple (by decide +kernel) (pp_cons (pp_var 1) pp_nil)) pp_nil))))))) pps_nil)
  (pps_cons (pp_set (n := 3) nd rfl (Or.inl rfl) (pp_lst true pp_nil))
  (pps_cons (pp_for (t := (.name 2)) PassesOwn.never rfl (pp_iR1 (by rfl) T.f_range (pp_cons (pp_fcall G_next (hr.mono (by decide)) (by rfl) T.g_next passN (pp_cons (pp_var 0) (pp_cons (pp_c pe_int (fun _ _ _ => .int _)) pp_nil))) pp_nil)) (pg_name (i := 2) nd rfl (Or.inl rfl)) (pps_cons (pp_set (n := 4) nd rfl (Or.inl rfl) (pp_fcall G_key (hr.mono (by decide)) (by rfl) T.g_key passN (pp_cons (pp_var 0) pp_nil)))
  (pps_one (pp_expr (pp_mt PySem.F.plainAttrs_list PySem.F.slot_list_append PySem.F.type_list_append mt_append ty_list p_append (pp_var 3) (pp_cons (pp_tup (pp_cons (pp_ix (pp_lst false (pp_cons (pp_var 4) (pp_cons (pp_tup pp_nil) pp_nil))) (pp_callT cInt1 p_int (by rfl) T.f_int (by decide +kernel) (pp_cons (pp_cmp (o_eq hr.units) p_eq (pp_var 2) (pp_c pe_int (fun _ _ _ => .int _)) (nomark _)) pp_nil)) (fun _ _ => rfl)) (pp_cons (pp_fcall G_next (hr.mono (by decide)) (by rfl) T.g_next passN (pp_cons (pp_var 0) (pp_cons (pp_ix (pp_lst false (pp_cons (pp_c pe_int (fun _ _ _ => .int _)) (pp_cons (pp_c pe_int (fun _ _ _ => .int _)) pp_nil))) (pp_fcall G_next (hr.mono (by decide)) (by rfl) T.g_next passN (pp_cons (pp_var 0) (pp_cons (pp_c pe_int (fun _ _ _ => .int _)) pp_nil))) (fun _ _ => rfl)) pp_nil))) pp_nil))) pp_nil))))))
  (pps_one (pp_ret (pp_tup (pp_cons (pp_c pe_str (fun _ _ _ => .str _)) (pp_cons (pp_callT cTupQ p_tuple (by rfl) T.f_tuple (by decide +kernel) (pp_cons (pp_var 3) pp_nil)) pp_nil))))))))

theorem d_tried {P : Program} {w : World} {K : PySem.W.Frag} {mg : Str → Option Value} {base : Heap} (T : Tx K mg) (G_read_page : Con P w K mg base (L2.CX P w) 6 ("read_page", none) ["data"] (spF K 1 f_read_page)) (G_same : Con P w K mg base CX0 6 ("_law_same", none) ["_law_actual", "_law_expected"] (spF K 2 (f_same 6))) (G_page_bytes : Con P w K mg base CX0 3 ("_law_page_bytes", none) ["_law_page_here"] (spF K 1 f_page_bytes)) {cdv : Value} {A : Around} {outer : List PySem.Env} {s : Shared} {H : Hp} {E : XK} (hr : Room (6) (A.deeper (envOfC "_law_tried" (defScope s_tried) s.heap.objs.size (He.fAd K ("_law_tried", none)) cdv))) :
    PSs (cxOf CX0 P w K mg base ["_law_data", "_law_passed", "_law_page_here", "e"] "_law_tried" (defScope s_tried) (He.fAd K ("_law_tried", none)) cdv A outer s H E).nox (defBody s_tried) (tS K (fun _ => E0) fb_tried) := by
  have nd : (["_law_data", "_law_passed", "_law_page_here", "e"] : List Str).Nodup := sc_tried.nd
  have hu := hu_of hr
  unfold fb_tried
  exact (pps_cons (pp_set (n := 1) nd rfl (Or.inl rfl) (pp_callT cListQ (p_list false) (by rfl) T.f_list (by decide +kernel) (pp_cons (pp_var 0) pp_nil)))
  (pps_cons (pp_tryAs (i := 3) (ct := ct_AnswerError) (Wout := (fun _ _ _ _ => False)) rfl rfl nd rfl rfl ⟨rfl, by decide, .inl T.g_AnswerError⟩ takes0 (hct_AnswerError T) (fun W pn xe tk po => (pps_one (pp_set (n := 2) nd rfl (Or.inl rfl) (pp_fcall G_read_page (hr.mono (by decide)) (by rfl) T.g_read_page (passW tk) (pp_cons (pp_var 1) pp_nil))))) (fun a oe c fs d pn hz hf => (pjs_one (pj_ret (pj_andV (pe_imp (pe_callB (call_isZ hz hf) (by rfl) T.f_isinstance (by decide +kernel) (pa_cons (pe_var (i := 3) rfl (by first | exact Or.inl rfl | exact Or.inr (Or.inl rfl))) (pa_cons (pe_glob (v := .ref (He.ga K "DamagedData")) rfl T.g_DamagedData rfl) pa_nil))) (fun σ H Q w => isE_of (his_DamagedData T c) (fun _ h => h) w)) (pj_one (pe_imp (pe_callB (call_isZ hz hf) (by rfl) T.f_isinstance (by decide +kernel) (pa_cons (pe_var (i := 3) rfl (by first | exact Or.inl rfl | exact Or.inr (Or.inl rfl))) (pa_cons (pe_bltn (v := .ty "ValueError") (by rfl) T.f_ValueError (by decide +kernel) rfl) pa_nil))) (fun σ H Q w => isE_of (his_ValueError T c) (fun _ h => h) w))))))))
  (pps_cons (pp_if (PW.pt (pp_or (pp_not (pp_tru (pp_callB call_isi p_isi (by rfl) T.f_isinstance (by decide +kernel) (pp_cons (pp_var 2) (pp_cons (pp_c (pe_bltn (v := .ty "tuple") (by rfl) T.f_tuple (by decide +kernel) rfl) (fun _ _ _ => .ty _)) pp_nil))))) (pp_or (pp_tcmp (o_ne hr.units) p_ne (pp_callB c_len3 p_len (by rfl) T.f_len (by decide +kernel) (pp_cons (pp_var 2) pp_nil)) (pp_c pe_int (fun _ _ _ => .int _)) (nomark _)) (pp_or1 (pp_tcmp op_notIn_seq p_notin (pp_ix (pp_var 2) (pp_c pe_int (fun _ _ _ => .int _)) (fun _ _ => rfl)) (pp_lst false (pp_cons (pp_c pe_str (fun _ _ _ => .str _)) (pp_cons (pp_c pe_str (fun _ _ _ => .str _)) pp_nil))) (by rfl)))))) (pps_one (pp_ret (pp_c pe_bl (fun _ _ _ => .bl _)))) pps_nil)
  (pps_cons (pp_if (PW.pt (pp_and (pp_tcmp (o_eq hr.units) p_eq (pp_ix (pp_var 2) (pp_c pe_int (fun _ _ _ => .int _)) (fun _ _ => rfl)) (pp_c pe_str (fun _ _ _ => .str _)) (nomark _)) (pp_and (pp_tcmp (op_cm .gt (u200 hr)) (p_cm .gt) (pp_callB c_len3 p_len (by rfl) T.f_len (by decide +kernel) (pp_cons (pp_ix (pp_var 2) (pp_c pe_int (fun _ _ _ => .int _)) (fun _ _ => rfl)) pp_nil)) (pp_c pe_int (fun _ _ _ => .int _)) (nomark _)) (pp_and1 (pp_tcmp (o_ne hr.units) p_ne (pp_ix (pp_ix (pp_ix (pp_var 2) (pp_c pe_int (fun _ _ _ => .int _)) (fun _ _ => rfl)) (pp_c pe_int (fun _ _ _ => .int _)) (fun _ _ => rfl)) (pp_c pe_int (fun _ _ _ => .int _)) (fun _ _ => rfl)) (pp_tup pp_nil) (nomark _)))))) (pps_one (pp_ret (pp_c pe_bl (fun _ _ _ => .bl _)))) pps_nil)
  (pps_one (pp_ret (pp_andV (pp_cmp (o_eq hr.units) p_eq (pp_var 1) (pp_var 0) (nomark _)) (pp_one (pp_fcall G_same (hr.mono (by decide)) (by rfl) T.g_same passN (pp_cons (pp_fcall G_page_bytes (hr.mono (by decide)) (by rfl) T.g_page_bytes passN (pp_cons (pp_var 2) pp_nil)) (pp_cons (pp_var 0) pp_nil)))))))))))

theorem d_law {P : Program} {w : World} {K : PySem.W.Frag} {mg : Str → Option Value} {base : Heap} (T : Tx K mg) (G_page : Con P w K mg base CX0 4 ("_law_page", none) ["_law_state"] (spF K 1 f_page)) (G_page_bytes : Con P w K mg base CX0 3 ("_law_page_bytes", none) ["_law_page_here"] (spF K 1 f_page_bytes)) (G_same : Con P w K mg base CX0 6 ("_law_same", none) ["_law_actual", "_law_expected"] (spF K 2 (f_same 6))) (G_write_page : Con P w K mg base CX0 4 ("write_page", none) ["page"] (spF K 1 f_write_page)) (G_read_page : Con P w K mg base (L2.CX P w) 6 ("read_page", none) ["data"] (spF K 1 f_read_page)) (G_next : Con P w K mg base CX0 1 ("_law_next", none) ["_law_state", "_law_limit"] (spF K 2 f_next)) (G_tried : Con P w K mg base CX0 7 ("_law_tried", none) ["_law_data"] (spF K 1 f_tried)) {cdv : Value} {A : Around} {outer : List PySem.Env} {s : Shared} {H : Hp} {E : XK} (hr : Room (7) (A.deeper (envOfC "law" (defScope s_law) s.heap.objs.size (He.fAd K ("law", none)) cdv))) :
    PSs (cxOf CX0 P w K mg base ["_law_script", "_law_state", "_law_k", "_law_page_here", "_law_due", "_law_at", "_law_byte", "_law_changed", "_law_data", "_law_drawn", "_law_j"] "law" (defScope s_law) (He.fAd K ("law", none)) cdv A outer s H E).nox (defBody s_law) (tS K (fun _ => E0) fb_law) := by
  have nd : (["_law_script", "_law_state", "_law_k", "_law_page_here", "_law_due", "_law_at", "_law_byte", "_law_changed", "_law_data", "_law_drawn", "_law_j"] : List Str).Nodup := sc_law.nd
  have hu := hu_of hr
  unfold fb_law
  exact (pps_cons (pp_set (n := 1) nd rfl (Or.inr rfl) (pp_lst true (pp_cons (pp_callT cListQ (p_list false) (by rfl) T.f_list (by decide +kernel) (pp_cons (pp_var 0) pp_nil)) (pp_cons (pp_c pe_int (fun _ _ _ => .int _)) (pp_cons (pp_c pe_int (fun _ _ _ => .int _)) (pp_cons (pp_c pe_int (fun _ _ _ => .int _)) pp_nil))))))
  (pps_cons (pp_for (t := (.name 2)) PassesOwn.never rfl (pp_iR1 (by rfl) T.f_range (pp_cons (pp_c pe_int (fun _ _ _ => .int _)) pp_nil)) (pg_name (i := 2) nd rfl (Or.inl rfl)) (pps_cons (pp_set (n := 3) nd rfl (Or.inl rfl) (pp_fcall G_page (hr.mono (by decide)) (by rfl) T.g_page passN (pp_cons (pp_var 1) pp_nil)))
  (pps_cons (pp_set (n := 4) nd rfl (Or.inl rfl) (pp_fcall G_page_bytes (hr.mono (by decide)) (by rfl) T.g_page_bytes passN (pp_cons (pp_var 3) pp_nil)))
  (pps_cons (pp_if (pp_not (pp_tru (pp_fcall G_same (hr.mono (by decide)) (by rfl) T.g_same passN (pp_cons (pp_fcall G_write_page (hr.mono (by decide)) (by rfl) T.g_write_page passN (pp_cons (pp_var 3) pp_nil)) (pp_cons (pp_var 4) pp_nil))))) (pps_one (pp_ret (pp_c pe_bl (fun _ _ _ => .bl _)))) pps_nil)
  (pps_one (pp_if (pp_tcmp oNotNo p_notN (pp_var 4) (pp_c pe_non (fun _ _ _ => .non)) (nomark _)) (pps_cons (pp_if (pp_not (pp_tru (pp_fcall G_same (hr.mono (by decide)) (by rfl) T.g_same passN (pp_cons (pp_fcall G_read_page (hr.mono (by decide)) (by rfl) T.g_read_page passF (pp_cons (pp_callT cListQ (p_list false) (by rfl) T.f_list (by decide +kernel) (pp_cons (pp_var 4) pp_nil)) pp_nil)) (pp_cons (pp_var 3) pp_nil))))) (pps_one (pp_ret (pp_c pe_bl (fun _ _ _ => .bl _)))) pps_nil)
  (pps_cons (pp_set (n := 5) nd rfl (Or.inl rfl) (pp_fcall G_next (hr.mono (by decide)) (by rfl) T.g_next passN (pp_cons (pp_var 1) (pp_cons (pp_ix (pp_lst false (pp_cons (pp_c pe_int (fun _ _ _ => .int _)) (pp_cons (pp_c pe_int (fun _ _ _ => .int _)) pp_nil))) (pp_fcall G_next (hr.mono (by decide)) (by rfl) T.g_next passN (pp_cons (pp_var 1) (pp_cons (pp_c pe_int (fun _ _ _ => .int _)) pp_nil))) (fun _ _ => rfl)) pp_nil))))
  (pps_cons (pp_set (n := 6) nd rfl (Or.inl rfl) (pp_ix (pp_lst false (pp_cons (pp_fcall G_next (hr.mono (by decide)) (by rfl) T.g_next passN (pp_cons (pp_var 1) (pp_cons (pp_c pe_int (fun _ _ _ => .int _)) pp_nil))) (pp_cons (pp_fcall G_next (hr.mono (by decide)) (by rfl) T.g_next passN (pp_cons (pp_var 1) (pp_cons (pp_c pe_int (fun _ _ _ => .int _)) pp_nil))) pp_nil))) (pp_fcall G_next (hr.mono (by decide)) (by rfl) T.g_next passN (pp_cons (pp_var 1) (pp_cons (pp_c pe_int (fun _ _ _ => .int _)) pp_nil))) (fun _ _ => rfl)))
  (pps_cons (pp_set (n := 7) nd rfl (Or.inl rfl) (pp_lst false (pp_cons (pp_op o_add (p_add false) (pp_op o_add (p_add false) (pp_slice false (pp_var 4) pp_nopart (pp_part (pp_var 5))) (pp_lst false (pp_cons (pp_var 6) pp_nil))) (pp_slice false (pp_var 4) (pp_part (pp_op o_add (p_add false) (pp_var 5) (pp_c pe_int (fun _ _ _ => .int _)))) pp_nopart)) (pp_cons (pp_op o_add (p_add false) (pp_op o_add (p_add false) (pp_slice false (pp_var 4) pp_nopart (pp_part (pp_var 5))) (pp_slice false (pp_var 4) (pp_part (pp_op o_add (p_add false) (pp_var 5) (pp_c pe_int (fun _ _ _ => .int _)))) pp_nopart)) (pp_lst false (pp_cons (pp_c pe_int (fun _ _ _ => .int _)) pp_nil))) (pp_cons (pp_op o_add (p_add false) (pp_op o_add (p_add false) (pp_slice false (pp_var 4) pp_nopart (pp_part (pp_var 5))) (pp_lst false (pp_cons (pp_var 6) pp_nil))) (pp_slice false (pp_var 4) (pp_part (pp_var 5)) (pp_part (pp_c pe_int (fun _ _ _ => .int _))))) pp_nil)))))
  (pps_one (pp_for (t := (.name 8)) PassesOwn.never rfl (pp_iSeq (pp_op o_add (p_add false) (pp_var 7) (pp_lst false (pp_cons (pp_op o_add (p_add false) (pp_var 4) (pp_lst false (pp_cons (pp_c pe_int (fun _ _ _ => .int _)) pp_nil))) (pp_cons (pp_slice false (pp_var 4) pp_nopart (pp_part (pp_c pe_int (fun _ _ _ => .int _)))) (pp_cons (pp_op o_add (p_add false) (pp_slice false (pp_var 4) pp_nopart (pp_part (pp_c pe_int (fun _ _ _ => .int _)))) (pp_lst false (pp_cons (pp_op o_add (p_add false) (pp_c pe_int (fun _ _ _ => .int _)) (pp_op oModI p_mod (pp_var 6) (pp_c pe_int (fun _ _ _ => .int _)))) pp_nil))) (pp_cons (pp_lst false pp_nil) pp_nil))))))) (pg_name (i := 8) nd rfl (Or.inl rfl)) (pps_one (pp_if (pp_not (pp_tru (pp_fcall G_tried (hr.mono (by decide)) (by rfl) T.g_tried passN (pp_cons (pp_var 8) pp_nil)))) (pps_one (pp_ret (pp_c pe_bl (fun _ _ _ => .bl _)))) pps_nil)))))))) pps_nil))))))
  (pps_cons (pp_setLc (i := 9) false (own := [("_law_j", 10)]) (t := (.name 10)) rfl nd rfl rfl (sw_true rfl rfl rfl (by decide +kernel)) (pp_iR1 (by rfl) T.f_range (pp_cons (pp_fcall G_next (hr.mono (by decide)) (by rfl) T.g_next passN (pp_cons (pp_var 1) (pp_cons (pp_c pe_int (fun _ _ _ => .int _)) pp_nil))) pp_nil)) (blkOk_by (N := ["_law_script", "_law_state", "_law_k", "_law_page_here", "_law_due", "_law_at", "_law_byte", "_law_changed", "_law_data", "_law_drawn", "_law_j"]) (sc := (defScope s_law)) (by decide +kernel)) (by decide) (fun _ _ _ _ _ => (pg_name (i := 10) nd rfl (Or.inl rfl))) (fun _ _ _ _ _ => pp_tnil) (fun _ _ _ _ _ => (pp_ix (pp_lst false (pp_cons (pp_fcall G_next (hr.mono (by decide)) (by rfl) T.g_next passN (pp_cons (pp_var 1) (pp_cons (pp_c pe_int (fun _ _ _ => .int _)) pp_nil))) (pp_cons (pp_fcall G_next (hr.mono (by decide)) (by rfl) T.g_next passN (pp_cons (pp_var 1) (pp_cons (pp_c pe_int (fun _ _ _ => .int _)) pp_nil))) pp_nil))) (pp_fcall G_next (hr.mono (by decide)) (by rfl) T.g_next passN (pp_cons (pp_var 1) (pp_cons (pp_c pe_int (fun _ _ _ => .int _)) pp_nil))) (fun _ _ => rfl))))
  (pps_one (pp_ret (pp_andV (pp_fcall G_tried (hr.mono (by decide)) (by rfl) T.g_tried passN (pp_cons (pp_op o_add (p_add false) (pp_var 9) (pp_op o_mul (p_mul false) (pp_lst false (pp_cons (pp_c pe_int (fun _ _ _ => .int _)) pp_nil)) (pp_op oSubI p_sub (pp_c pe_int (fun _ _ _ => .int _)) (pp_callB c_len3 p_len (by rfl) T.f_len (by decide +kernel) (pp_cons (pp_var 9) pp_nil))))) pp_nil)) (pp_one (pp_fcall G_tried (hr.mono (by decide)) (by rfl) T.g_tried passN (pp_cons (pp_op o_add (p_add false) (pp_lst false (pp_cons (pp_c pe_int (fun _ _ _ => .int _)) pp_nil)) (pp_op o_mul (p_mul false) (pp_lst false (pp_cons (pp_c pe_int (fun _ _ _ => .int _)) pp_nil)) (pp_c pe_int (fun _ _ _ => .int _)))) pp_nil)))))))))
end
/-! C -/
section
open PySem PySem.Spec PyProof.Rows
section
variable {P : Program} {w : World} {K : PySem.W.Frag} {mg : Str → Option Value} {base : Heap}
theorem con_bytes_of (T : Tx K mg) : Con P w K mg base CX0 1 ("bytes_of", none) ["value"] (spF K 1 f_bytes_of) := by
  obtain ⟨fd, F⟩ := T.c.def_ 0 (d := D_bytes_of) rfl
  exact conC (cut := true) (fb := fb_bytes_of) F sc_bytes_of (F.bindsN fun _ _ _ _ _ _ us hl => match us, hl with | [_], _ => rfl) rfl rfl (fun cdv A outer s H E hr => d_bytes_of T  hr)
theorem con_key_of (T : Tx K mg) : Con P w K mg base CX0 2 ("key_of", none) ["values"] (spF K 1 f_key_of) := by
  obtain ⟨fd, F⟩ := T.c.def_ 1 (d := D_key_of) rfl
  exact conC (cut := true) (fb := fb_key_of) F sc_key_of (F.bindsN fun _ _ _ _ _ _ us hl => match us, hl with | [_], _ => rfl) rfl rfl (fun cdv A outer s H E hr => d_key_of T (con_bytes_of T) hr)
theorem con_character_of (T : Tx K mg) : Con P w K mg base CX0 1 ("character_of", none) ["code"] (spF K 1 f_character_of) := by
  obtain ⟨fd, F⟩ := T.c.def_ 2 (d := D_character_of) rfl
  exact conC (cut := true) (fb := fb_character_of) F sc_character_of (F.bindsN fun _ _ _ _ _ _ us hl => match us, hl with | [_], _ => rfl) rfl rfl (fun cdv A outer s H E hr => d_character_of T  hr)
theorem con_integer_at (T : Tx K mg) : Con P w K mg base CX0 1 ("integer_at", none) ["key", "at"] (spF K 2 f_integer_at) := by
  obtain ⟨fd, F⟩ := T.c.def_ 3 (d := D_integer_at) rfl
  exact conC (cut := true) (fb := fb_integer_at) F sc_integer_at (F.bindsN fun _ _ _ _ _ _ us hl => match us, hl with | [_, _], _ => rfl) rfl rfl (fun cdv A outer s H E hr => d_integer_at T  hr)
theorem con_text_at (T : Tx K mg) : Con P w K mg base CX0 2 ("text_at", none) ["key", "at"] (spF K 2 f_text_at) := by
  obtain ⟨fd, F⟩ := T.c.def_ 4 (d := D_text_at) rfl
  exact conC (cut := true) (fb := fb_text_at) F sc_text_at (F.bindsN fun _ _ _ _ _ _ us hl => match us, hl with | [_, _], _ => rfl) rfl rfl (fun cdv A outer s H E hr => d_text_at T (con_character_of T) hr)
theorem con_values_of (T : Tx K mg) : Con P w K mg base CX0 3 ("values_of", none) ["key"] (spF K 1 f_values_of) := by
  obtain ⟨fd, F⟩ := T.c.def_ 5 (d := D_values_of) rfl
  exact conC (cut := true) (fb := fb_values_of) F sc_values_of (F.bindsN fun _ _ _ _ _ _ us hl => match us, hl with | [_], _ => rfl) rfl rfl (fun cdv A outer s H E hr => d_values_of T (con_integer_at T) (con_text_at T) (con_bytes_of T) hr)
theorem con_entry_bytes (T : Tx K mg) : Con P w K mg base CX0 3 ("entry_bytes", none) ["entry"] (spF K 1 f_entry_bytes) := by
  obtain ⟨fd, F⟩ := T.c.def_ 6 (d := D_entry_bytes) rfl
  exact conC (cut := true) (fb := fb_entry_bytes) F sc_entry_bytes (F.bindsN fun _ _ _ _ _ _ us hl => match us, hl with | [_], _ => rfl) rfl rfl (fun cdv A outer s H E hr => d_entry_bytes T (con_key_of T) hr)
theorem con_child_bytes (T : Tx K mg) : Con P w K mg base CX0 1 ("child_bytes", none) ["child"] (spF K 1 f_child_bytes) := by
  obtain ⟨fd, F⟩ := T.c.def_ 7 (d := D_child_bytes) rfl
  exact conC (cut := true) (fb := fb_child_bytes) F sc_child_bytes (F.bindsN fun _ _ _ _ _ _ us hl => match us, hl with | [_], _ => rfl) rfl rfl (fun cdv A outer s H E hr => d_child_bytes T  hr)
theorem con_write_page (T : Tx K mg) : Con P w K mg base CX0 4 ("write_page", none) ["page"] (spF K 1 f_write_page) := by
  obtain ⟨fd, F⟩ := T.c.def_ 8 (d := D_write_page) rfl
  exact conC (cut := true) (fb := fb_write_page) F sc_write_page (F.bindsN fun _ _ _ _ _ _ us hl => match us, hl with | [_], _ => rfl) rfl rfl (fun cdv A outer s H E hr => d_write_page T (con_entry_bytes T) (con_child_bytes T) hr)
theorem con_PageReader_init (T : Tx K mg) : Con P w K mg base CX0 1 ("PageReader", some "__init__") ["self", "data"] (spF K 2 f_PageReader_init) := by
  obtain ⟨fd, F⟩ := T.c.def_ 9 (d := D_PageReader_init) rfl
  exact conC (cut := true) (fb := fb_PageReader_init) F sc_PageReader_init (F.bindsN fun _ _ _ _ _ _ us hl => match us, hl with | [_, _], _ => rfl) rfl rfl (fun cdv A outer s H E hr => d_PageReader_init T  hr)
theorem con_PageReader_need (T : Tx K mg) : Con P w K mg base (L2.CX P w) 1 ("PageReader", some "need") ["self", "holds"] (spF K 2 f_PageReader_need) := by
  obtain ⟨fd, F⟩ := T.c.def_ 10 (d := D_PageReader_need) rfl
  exact conF (cut := true) (fb := fb_PageReader_need) F sc_PageReader_need (F.bindsN fun _ _ _ _ _ _ us hl => match us, hl with | [_, _], _ => rfl) rfl rfl (fun cdv A outer s H E hr => d_PageReader_need T  hr)
theorem con_PageReader_read_bytes (T : Tx K mg) : Con P w K mg base (L2.CX P w) 2 ("PageReader", some "read_bytes") ["self", "count"] (spF K 2 f_PageReader_read_bytes) := by
  obtain ⟨fd, F⟩ := T.c.def_ 11 (d := D_PageReader_read_bytes) rfl
  exact conF (cut := true) (fb := fb_PageReader_read_bytes) F sc_PageReader_read_bytes (F.bindsN fun _ _ _ _ _ _ us hl => match us, hl with | [_, _], _ => rfl) rfl rfl (fun cdv A outer s H E hr => d_PageReader_read_bytes T (con_PageReader_need T) hr)
theorem con_PageReader_read_byte (T : Tx K mg) : Con P w K mg base (L2.CX P w) 3 ("PageReader", some "read_byte") ["self"] (spF K 1 f_PageReader_read_byte) := by
  obtain ⟨fd, F⟩ := T.c.def_ 12 (d := D_PageReader_read_byte) rfl
  exact conF (cut := true) (fb := fb_PageReader_read_byte) F sc_PageReader_read_byte (F.bindsN fun _ _ _ _ _ _ us hl => match us, hl with | [_], _ => rfl) rfl rfl (fun cdv A outer s H E hr => d_PageReader_read_byte T (con_PageReader_read_bytes T) hr)
theorem con_PageReader_read_key (T : Tx K mg) : Con P w K mg base (L2.CX P w) 4 ("PageReader", some "read_key") ["self"] (spF K 1 f_PageReader_read_key) := by
  obtain ⟨fd, F⟩ := T.c.def_ 13 (d := D_PageReader_read_key) rfl
  exact conF (cut := true) (fb := fb_PageReader_read_key) F sc_PageReader_read_key (F.bindsN fun _ _ _ _ _ _ us hl => match us, hl with | [_], _ => rfl) rfl rfl (fun cdv A outer s H E hr => d_PageReader_read_key T (con_PageReader_read_bytes T) (con_PageReader_read_byte T) hr)
theorem con_PageReader_read_entry (T : Tx K mg) : Con P w K mg base (L2.CX P w) 5 ("PageReader", some "read_entry") ["self"] (spF K 1 f_PageReader_read_entry) := by
  obtain ⟨fd, F⟩ := T.c.def_ 14 (d := D_PageReader_read_entry) rfl
  exact conF (cut := true) (fb := fb_PageReader_read_entry) F sc_PageReader_read_entry (F.bindsN fun _ _ _ _ _ _ us hl => match us, hl with | [_], _ => rfl) rfl rfl (fun cdv A outer s H E hr => d_PageReader_read_entry T (con_PageReader_read_key T) (con_values_of T) (con_PageReader_need T) hr)
theorem con_PageReader_read_child (T : Tx K mg) : Con P w K mg base (L2.CX P w) 5 ("PageReader", some "read_child") ["self", "is_first"] (spF K 2 f_PageReader_read_child) := by
  obtain ⟨fd, F⟩ := T.c.def_ 15 (d := D_PageReader_read_child) rfl
  exact conF (cut := true) (fb := fb_PageReader_read_child) F sc_PageReader_read_child (F.bindsN fun _ _ _ _ _ _ us hl => match us, hl with | [_, _], _ => rfl) rfl rfl (fun cdv A outer s H E hr => d_PageReader_read_child T (con_PageReader_read_byte T) (con_PageReader_read_key T) (con_PageReader_need T) hr)
theorem con_PageReader_read_end (T : Tx K mg) : Con P w K mg base (L2.CX P w) 2 ("PageReader", some "read_end") ["self"] (spF K 1 f_PageReader_read_end) := by
  obtain ⟨fd, F⟩ := T.c.def_ 16 (d := D_PageReader_read_end) rfl
  exact conF (cut := true) (fb := fb_PageReader_read_end) F sc_PageReader_read_end (F.bindsN fun _ _ _ _ _ _ us hl => match us, hl with | [_], _ => rfl) rfl rfl (fun cdv A outer s H E hr => d_PageReader_read_end T (con_PageReader_need T) hr)
theorem con_read_page (T : Tx K mg) : Con P w K mg base (L2.CX P w) 6 ("read_page", none) ["data"] (spF K 1 f_read_page) := by
  obtain ⟨fd, F⟩ := T.c.def_ 17 (d := D_read_page) rfl
  exact conF (cut := true) (fb := fb_read_page) F sc_read_page (F.bindsN fun _ _ _ _ _ _ us hl => match us, hl with | [_], _ => rfl) rfl rfl (fun cdv A outer s H E hr => d_read_page T (con_PageReader_init T) (con_PageReader_need T) (con_PageReader_read_byte T) (con_PageReader_read_entry T) (con_PageReader_read_child T) (con_PageReader_read_end T) hr)
theorem con_next (T : Tx K mg) : Con P w K mg base CX0 1 ("_law_next", none) ["_law_state", "_law_limit"] (spF K 2 f_next) := by
  obtain ⟨fd, F⟩ := T.c.def_ 18 (d := D_next) rfl
  exact conC (cut := true) (fb := fb_next) F sc_next (F.bindsN fun _ _ _ _ _ _ us hl => match us, hl with | [_, _], _ => rfl) rfl rfl (fun cdv A outer s H E hr => d_next T  hr)
theorem con_same (T : Tx K mg) : ∀ n : Nat, Con P w K mg base CX0 n ("_law_same", none) ["_law_actual", "_law_expected"] (spF K 2 (f_same n))
  | 0 => by
    obtain ⟨fd, F⟩ := T.c.def_ 19 (d := D_same) rfl
    exact con0 F (F.bindsN fun _ _ _ _ _ _ us hl => match us, hl with | [_, _], _ => rfl) (fun _ _ => rfl) rfl
  | n + 1 => by
    obtain ⟨fd, F⟩ := T.c.def_ 19 (d := D_same) rfl
    have G := con_same T n
    exact conC (cut := true) (fb := fb_same (fun _ => f_same n) n) F sc_same (F.bindsN fun _ _ _ _ _ _ us hl => match us, hl with | [_, _], _ => rfl) rfl rfl (fun cdv A outer s H E hr => d_same n T G hr)
theorem con_characters (T : Tx K mg) : Con P w K mg base CX0 1 ("_law_characters", none) [] (spF K 0 f_characters) := by
  obtain ⟨fd, F⟩ := T.c.def_ 21 (d := D_characters) rfl
  exact conC (cut := true) (fb := fb_characters) F sc_characters (F.bindsN fun _ _ _ _ _ _ us hl => match us, hl with | [], _ => rfl) rfl rfl (fun cdv A outer s H E hr => d_characters T  hr)
theorem con_value (T : Tx K mg) : Con P w K mg base CX0 2 ("_law_value", none) ["_law_state"] (spF K 1 f_value) := by
  obtain ⟨fd, F⟩ := T.c.def_ 20 (d := D_value) rfl
  exact conC (cut := true) (fb := fb_value) F sc_value (F.bindsN fun _ _ _ _ _ _ us hl => match us, hl with | [_], _ => rfl) rfl rfl (fun cdv A outer s H E hr => d_value T (con_next T) (con_characters T) hr)
theorem con_bytes (T : Tx K mg) : Con P w K mg base CX0 2 ("_law_bytes", none) ["_law_values"] (spF K 1 f_bytes) := by
  obtain ⟨fd, F⟩ := T.c.def_ 22 (d := D_bytes) rfl
  exact conC (cut := true) (fb := fb_bytes) F sc_bytes (F.bindsN fun _ _ _ _ _ _ us hl => match us, hl with | [_], _ => rfl) rfl rfl (fun cdv A outer s H E hr => d_bytes T (con_characters T) hr)
theorem con_page_bytes (T : Tx K mg) : Con P w K mg base CX0 3 ("_law_page_bytes", none) ["_law_page_here"] (spF K 1 f_page_bytes) := by
  obtain ⟨fd, F⟩ := T.c.def_ 23 (d := D_page_bytes) rfl
  exact conC (cut := true) (fb := fb_page_bytes) F sc_page_bytes (F.bindsN fun _ _ _ _ _ _ us hl => match us, hl with | [_], _ => rfl) rfl rfl (fun cdv A outer s H E hr => d_page_bytes T (con_bytes T) hr)
theorem con_key (T : Tx K mg) : Con P w K mg base CX0 3 ("_law_key", none) ["_law_state"] (spF K 1 f_key) := by
  obtain ⟨fd, F⟩ := T.c.def_ 24 (d := D_key) rfl
  exact conC (cut := true) (fb := fb_key) F sc_key (F.bindsN fun _ _ _ _ _ _ us hl => match us, hl with | [_], _ => rfl) rfl rfl (fun cdv A outer s H E hr => d_key T (con_next T) (con_bytes T) (con_value T) hr)
theorem con_page (T : Tx K mg) : Con P w K mg base CX0 4 ("_law_page", none) ["_law_state"] (spF K 1 f_page) := by
  obtain ⟨fd, F⟩ := T.c.def_ 25 (d := D_page) rfl
  exact conC (cut := true) (fb := fb_page) F sc_page (F.bindsN fun _ _ _ _ _ _ us hl => match us, hl with | [_], _ => rfl) rfl rfl (fun cdv A outer s H E hr => d_page T (con_next T) (con_key T) (con_value T) hr)
theorem con_tried (T : Tx K mg) : Con P w K mg base CX0 7 ("_law_tried", none) ["_law_data"] (spF K 1 f_tried) := by
  obtain ⟨fd, F⟩ := T.c.def_ 26 (d := D_tried) rfl
  exact conC (cut := true) (fb := fb_tried) F sc_tried (F.bindsN fun _ _ _ _ _ _ us hl => match us, hl with | [_], _ => rfl) rfl rfl (fun cdv A outer s H E hr => d_tried T (con_read_page T) (con_same T 6) (con_page_bytes T) hr)
theorem con_law (T : Tx K mg) : Con P w K mg base CX0 8 ("law", none) ["_law_script"] (spF K 1 f_law) := by
  obtain ⟨fd, F⟩ := T.c.def_ 27 (d := D_law) rfl
  exact conC (cut := true) (fb := fb_law) F sc_law (F.bindsN fun _ _ _ _ _ _ us hl => match us, hl with | [_], _ => rfl) rfl rfl (fun cdv A outer s H E hr => d_law T (con_page T) (con_page_bytes T) (con_same T 6) (con_write_page T) (con_read_page T) (con_next T) (con_tried T) hr)
theorem okL (T : Tx K mg) {fd : FuncData} (F : FunD K D_law.name D_law.qual D_law.params D_law.body D_law.scope (D_law.dvs K) (D_law.kws K) (He.fAd K D_law.at_) fd) : FnOk P w K mg base CX0 8 (He.fAd K ("law", none)) fd ["_law_script"] (spLawP K) :=
  F.ok sc_law (fun vs H Q E h => by obtain ⟨a, ns, rfl, _⟩ := h; rfl) (fun cdv A outer s H vs Q E hr h => ⟨_, PSs.nox (d_law T (con_page T) (con_page_bytes T) (con_same T 6) (con_write_page T) (con_read_page T) (con_next T) (con_tried T) hr), body_ofC (cut := true) (law_spF law_true h)⟩)
end
abbrev RR : PySem.W.OpenRow := PySem.W.OpenLaw.row PySem.Challenge.rw_sameanswer_k02_bytes_of_pages
def obX (g : Addr → Option Obj) : He.AlD × Bool := (He.obsD faL fnL (He.frG g (He.asD g 5)), exK (He.frG g (He.asD g 5)))
def hk : PySem.W.Hook where
  α := He.AlD × Bool
  obs := fun s => obX s.heap.get?
  val := fun _ => (He.valD fnL, true)
  says := fun _ h => ∃ K : PySem.W.Frag, K.In h ∧ He.SaysD faL fnL K ∧ exK K = true
  of := fun _ _ e => ⟨_, He.frG_in, congrArg (fun z : He.AlD × Bool => z.1) e, congrArg (fun z : He.AlD × Bool => z.2) e⟩
  keeps := fun _ _ _ ⟨K, hK, c⟩ k => ⟨K, PySem.W.Frag.In.keeps hK k, c⟩
def ob (s : PySem.W.SharedT) : He.AlD × Bool := obX (HandSHeadRun.getT s)
theorem ob_eq (s : PySem.W.SharedT) : ob s = hk.obs s.abs := by
  show obX (HandSHeadRun.getT s) = obX s.abs.heap.get?
  rw [show HandSHeadRun.getT s = s.abs.heap.get? from funext (HandSHeadRun.getT_eq s)]
theorem runX (w : World) : HandSHeadRun.RunEq RR (PySem.W.view RR.prog [37]) hk ob 3000 (("AnswerError" : Str) :: ("DamagedData" : Str) :: ("INTEGER" : Str) :: ("TEXT" : Str) :: ("NUMBER_BYTES" : Str) :: ("SHIFT" : Str) :: ("BOUND" : Str) :: ("MOST_CHARACTERS" : Str) :: ("BEFORE_PERCENT" : Str) :: ("AFTER_PERCENT" : Str) :: ("bytes_of" : Str) :: ("key_of" : Str) :: ("character_of" : Str) :: ("integer_at" : Str) :: ("text_at" : Str) :: ("values_of" : Str) :: ("PAGE" : Str) :: ("LEAF" : Str) :: ("INNER" : Str) :: ("entry_bytes" : Str) :: ("child_bytes" : Str) :: ("write_page" : Str) :: ("PageReader" : Str) :: ("read_page" : Str) :: ("_law_next" : Str) :: ("_law_same" : Str) :: ("_law_value" : Str) :: ("_law_characters" : Str) :: ("_law_bytes" : Str) :: ("_law_page_bytes" : Str) :: ("_law_key" : Str) :: ("_law_page" : Str) :: ("_law_tried" : Str) :: []) w := by
  intro os
  kernel_rfl
theorem factsX {P : Program} {w : World} {K : PySem.W.Frag} {h : Heap} {mg : Str → Option Value} {f : Addr} (X : K.In h) (G : h.Ns mainGlobals mg) (hfa : mg ("law" : Str) = some (.ref f)) (c : He.SaysD faL fnL K) (ex : exK K = true) :
    ∃ fd : FuncData, (∀ (s : Shared) (v : Value), BindsTo s fd ⟨[v], []⟩ [("_law_script", v)]) ∧ ∀ base : Heap, K.In base → base.Ns mainGlobals mg → FnOk P w K mg base CX0 8 f fd ["_law_script"] (spLawP K) := by
  have T : Tx K mg := ⟨c, ⟨h, X, G⟩, ex⟩
  obtain ⟨fd, F⟩ := c.def_ 27 (d := D_law) rfl
  have e := hfa.symm.trans (He.glo_ok X G (c.fact 19 (f := .glo "law") rfl))
  cases e
  have b := FunD.bindsA (ps := ["_law_script"]) F fun _ _ _ _ _ _ us hl => match us, hl with | [_], _ => rfl
  exact ⟨fd, fun s v => b s [v] rfl, fun base _ _ => okL T F⟩
end
end L2.Q
open PySem PySem.W PySem.Calls PyProof.Rows
theorem PySem.Challenge.cw_sameanswer_k02_bytes_of_pages_holds : PySem.Challenge.rw_sameanswer_k02_bytes_of_pages.Holds := by
  w_on; o_law
  refine HandSHeadRun.head_any (r := OpenLaw.row PySem.Challenge.rw_sameanswer_k02_bytes_of_pages) (q := view (OpenLaw.row PySem.Challenge.rw_sameanswer_k02_bytes_of_pages).prog [37]) (H := L2.Q.hk) (ob := L2.Q.ob) (M := 3000) (loose := (("AnswerError" : Str) :: ("DamagedData" : Str) :: ("INTEGER" : Str) :: ("TEXT" : Str) :: ("NUMBER_BYTES" : Str) :: ("SHIFT" : Str) :: ("BOUND" : Str) :: ("MOST_CHARACTERS" : Str) :: ("BEFORE_PERCENT" : Str) :: ("AFTER_PERCENT" : Str) :: ("bytes_of" : Str) :: ("key_of" : Str) :: ("character_of" : Str) :: ("integer_at" : Str) :: ("text_at" : Str) :: ("values_of" : Str) :: ("PAGE" : Str) :: ("LEAF" : Str) :: ("INNER" : Str) :: ("entry_bytes" : Str) :: ("child_bytes" : Str) :: ("write_page" : Str) :: ("PageReader" : Str) :: ("read_page" : Str) :: ("_law_next" : Str) :: ("_law_same" : Str) :: ("_law_value" : Str) :: ("_law_characters" : Str) :: ("_law_bytes" : Str) :: ("_law_page_bytes" : Str) :: ("_law_key" : Str) :: ("_law_page" : Str) :: ("_law_tried" : Str) :: [])) (d := HandSHeadRun.topDef (OpenLaw.row PySem.Challenge.rw_sameanswer_k02_bytes_of_pages).prog 37) (kwd := []) L2.Q.ob_eq
    (by kernel_rfl) (fun s => by kernel_rfl) L2.Q.runX (by kernel_rfl) (by kernel_rfl) (by kernel_rfl) (by rfl) (by first | assumption | decide +kernel) (by decide +kernel) ⟨rfl, rfl, rfl, rfl, rfl, by decide +kernel⟩ ?hw ?hc
  case hw => w_witness2
  case hc =>
    refine L2.walk_ofE (l := PySem.Challenge.rw_sameanswer_k02_bytes_of_pages) (n := 63) (k := 8) (x := "_law_script") (CX := L2.CX0) rfl (by decide) (by kernel_rfl) ⟨rfl, by decide, by decide⟩ ?F (fun _ _ _ _ z => z)
    intro w mg fa h Y G hmg0
    obtain ⟨K, KX, c, ex⟩ := Y
    have hmg : mg ("law" : PySem.Str) = some (.ref fa) := by
      have e : (HandSHeadRun.topDef (OpenLaw.row PySem.Challenge.rw_sameanswer_k02_bytes_of_pages).prog 37).name = ("law" : PySem.Str) := by kernel_rfl
      rw [← e]
      exact hmg0
    obtain ⟨fd, hb, hF⟩ := L2.Q.factsX (P := (PySem.Challenge.rw_sameanswer_k02_bytes_of_pages).prog) (w := w) KX G hmg c ex
    exact ⟨K, fd, L2.Q.spLawP K, KX, hb, fun H a ns hl _ hS => ⟨a, ns, rfl, hS, hl, fun _ => rfl⟩, hF⟩
