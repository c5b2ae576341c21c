import PyProof.Rows.All
import Wide.All
import OpenK.AllK
import Wide.FinOn
import KE.KStateDown
import Lean
import HandS.Base
import HandS.Call
import HandS.List
import HandS.Comp
import HandS.Ends
import HandS.Dict
import HandS.Iter
import HandS.Text
import HandS.More
import HandS.Exc
import HandS.ExcOwn
import HandS.ExcIs
import HandS.TryOnly
import HandS.IsInst
import HandS.Style
import HandS.TupLe
import HandS.TupAny
import HandS.Wide
import HandS.Words
import HandS.WordsList
import HandS.WordsDict
import HandS.WordsExc
import HandS.Defaults
import HandS.Evl
import HandS.Head0
import HandS.Head1
import HandS.Head2
import HandS.HeadEnd
import HandS.HeadHook1
import HandS.HeadHook2
import KE.DatumOrd
import KE.DataMinMax
import HandS.Flow
import HandS.Replace
import PySem.Challenge.RW_sameanswer_k01_keys_and_ranges
set_option Elab.async false
set_option linter.all false
set_option maxRecDepth 100000
set_option maxHeartbeats 8000000
/-! law_k01_keys_and_ranges. Derivations and the head are printed by a program of ours from the row. -/
namespace L2.Q
/-! Q0 -/
section
open PySem PySem.Spec PyProof.Rows

/-! ### named operators -/
def rAddI : R2 := rI0 fun i j => .int (i + j)
def rSubI : R2 := rI0 fun i j => .int (i - j)
def rMulI : R2 := rI CMul fun i j => .int (i * j)
def rFdvI : R2 := rI CDivW fun i j => .int (i / j)
def rModI : R2 := rI (fun _ j => 0 < j) fun i j => .int (i % j)
def rPowI : R2 := rI CPow fun i j => .int (i ^ j.toNat)
def rLtI : R2 := rI0 fun i j => .bl (decide (i < j))
def rLeI : R2 := rI0 fun i j => .bl (decide (i ≤ j))
def rGtI : R2 := rI0 fun i j => .bl (decide (j < i))
def rGeI : R2 := rI0 fun i j => .bl (decide (j ≤ i))
def rNegI : V → Hp → VK → Prop := rU fun i => .int (-i)
def rIsNo : R2 := fun x y H Q => y = .non ∧ Q (.bl (decide (x = .non))) H
def rNotNo : R2 := fun x y H Q => y = .non ∧ Q (.bl (!decide (x = .non))) H
def rAddS : R2 := fun x y H Q => ∃ i j, x = .str i ∧ y = .str j ∧ i.length + j.length ≤ sizeLine ∧ Q (.str (i ++ j)) H
section
variable {X : Cx}
theorem oAddI : OpR X (binaryOp .Add) rAddI := op_add
theorem oSubI : OpR X (binaryOp .Sub) rSubI := op_sub
theorem oMulI : OpR X (binaryOp .Mult) rMulI := op_mul
theorem oFdvI : OpR X (binaryOp .FloorDiv) rFdvI := op_fdivW
theorem oModI : OpR X (binaryOp .Mod) rModI := op_mod
theorem oPowI : OpR X (binaryOp .Pow) rPowI := op_pow
theorem oLtI : OpR X (compareOp .Lt) rLtI := op_lt
theorem oLeI : OpR X (compareOp .LtE) rLeI := op_le
theorem oGtI : OpR X (compareOp .Gt) rGtI := op_gt
theorem oGeI : OpR X (compareOp .GtE) rGeI := op_ge
theorem oNegI : UnR X (unaryOp .USub) rNegI := un_neg
theorem oIsNo : OpR X (compareOp .Is) rIsNo := op_isN
theorem oNotNo : OpR X (compareOp .IsNot) rNotNo := op_notN
theorem oAddS : OpR X (binaryOp .Add) rAddS := op_add_str
end

/-! ### built-in calls, named -/
def rLenQ (K : PySem.W.Frag) : List V → Hp → VK → Prop := fun xs H Q => ∃ p ys, xs = [.ref p] ∧ (SqL K H p ys ∨ SqT K H p ys) ∧ Q (.int ys.length) H
def rLenD : List V → Hp → VK → Prop := fun xs H Q => ∃ a kvs, xs = [V.ref a] ∧ H a = some (.dK kvs) ∧ Q (.int kvs.length) H
def rLenT : List V → Hp → VK → Prop := fun xs H Q => ∃ z, xs = [.str z] ∧ z.length ≤ sizeLine ∧ Q (.int z.length) H
def rListQ (K : PySem.W.Frag) : List V → Hp → VK → Prop := fun xs H Q => ∃ p ys, xs = [.ref p] ∧ (SqL K H p ys ∨ SqT K H p ys) ∧ ∀ l, H l = none → Q (.ref l) (upd H l (.lst ys))
def rTupQ (K : PySem.W.Frag) : List V → Hp → VK → Prop := fun xs H Q => ∃ p ys, xs = [.ref p] ∧ ((SqL K H p ys ∧ ∀ l, H l = none → Q (.ref l) (upd H l (.tup ys))) ∨ (SqT K H p ys ∧ Q (.ref p) H))
def rInt1 : List V → Hp → VK → Prop := fun xs H Q => (∃ i, xs = [.int i] ∧ Q (.int i) H) ∨ ∃ k, xs = [.bl k] ∧ Q (.int (if k then 1 else 0)) H
def rMin2 : List V → Hp → VK → Prop := fun xs H Q => ∃ i j, xs = [.int i, .int j] ∧ Q (.int (if j < i then j else i)) H
def rMax2 : List V → Hp → VK → Prop := fun xs H Q => ∃ i j, xs = [.int i, .int j] ∧ Q (.int (if j > i then j else i)) H
def rAbs1 : List V → Hp → VK → Prop := fun xs H Q => ∃ i, xs = [.int i] ∧ Q (.int (if i < 0 then -i else i)) H
def rOrd1 : List V → Hp → VK → Prop := fun xs H Q => ∃ x, xs = [.str x] ∧ x.length = 1 ∧ Q (.int (x.cps.getD 0 0 : Nat)) H
section
variable {X : Cx}
theorem cLenQ : CallR X (.builtin "len") (rLenQ X.K) := call_len_seq
theorem cLenD : CallR X (.builtin "len") rLenD := call_lenD
theorem cLenT : CallR X (.builtin "len") rLenT := call_len_str
theorem cListQ : CallR X (.type "list") (rListQ X.K) := call_list_of
theorem cTupQ : CallR X (.type "tuple") (rTupQ X.K) := call_tuple_of
theorem cInt1 : CallR X (.type "int") rInt1 := call_int1
theorem cMin2 (hc : X.calm = true) : CallR X (.builtin "min") rMin2 := call_min2 hc
theorem cMax2 (hc : X.calm = true) : CallR X (.builtin "max") rMax2 := call_max2 hc
theorem cAbs1 : CallR X (.builtin "abs") rAbs1 := call_abs
theorem cOrd1 : CallR X (.builtin "ord") rOrd1 := call_ord
end

/-! ### constants of the module -/
section
variable {X : Cx} {x : Str} {pos : Pos}
theorem pe_gi {i : Int} (hg : Gl X x) (hm : ∃ t, X.mg x = some (.int i t)) (hd : (x == ("__debug__" : Str)) = false := by decide) : PE X (.Name x pos) (tC (.int i)) := by
  obtain ⟨t, h⟩ := hm
  exact pe_glob hg h ⟨t, rfl⟩ hd
theorem pe_gs {z : Str} (hg : Gl X x) (hm : ∃ t, X.mg x = some (.str z t)) (hd : (x == ("__debug__" : Str)) = false := by decide) : PE X (.Name x pos) (tC (.str z)) := by
  obtain ⟨t, h⟩ := hm
  exact pe_glob hg h ⟨t, rfl⟩ hd
end

/-! ### contracts -/
/-- the def that stands at at_ keeps the promise sp -/
structure Con (P : Program) (w : World) (K : PySem.W.Frag) (mg : Str → Option Value) (base : Heap) (CX : CXT) (k : Nat) (at_ : Str × Option Str) (ps : List Str) (sp : Sp) : Prop where
  ex : ∃ fd, FnOk P w K mg base CX k (He.fAd K at_) fd ps sp ∧ Binds K fd ps []
  kp : PySem.W.keepIn K (.ref (He.fAd K at_)) = true
theorem Con.imp {P : Program} {w : World} {K : PySem.W.Frag} {mg : Str → Option Value} {base : Heap} {CX : CXT} {k : Nat} {at_ : Str × Option Str} {ps : List Str} {sp sp' : Sp} (G : Con P w K mg base CX k at_ ps sp)
    (h : ∀ vs H Q E, sp' vs H Q E → sp vs H Q E) : Con P w K mg base CX k at_ ps sp' := by
  obtain ⟨⟨fd, F, b⟩, kp⟩ := G
  exact ⟨⟨fd, F.imp h, b⟩, kp⟩
theorem Con.mono {P : Program} {w : World} {K : PySem.W.Frag} {mg : Str → Option Value} {base : Heap} {CX : CXT} {k j : Nat} {at_ : Str × Option Str} {ps : List Str} {sp : Sp} (G : Con P w K mg base CX j at_ ps sp) (h : j ≤ k) : Con P w K mg base CX k at_ ps sp := by
  obtain ⟨⟨fd, F, b⟩, kp⟩ := G
  exact ⟨⟨fd, F.mono h, b⟩, kp⟩

theorem passN {X : Cx} {E : St → XK} : ∀ σ, PassesAt CX0 X σ (E σ) := fun _ _ _ _ _ _ _ h => h.elim
theorem passE {X : Cx} {E : XK} (tk : Takes X (fun cls d _ H => E cls d H)) : ∀ σ, PassesAt (L2.CX X.prog X.w) X σ E := fun σ => passAt tk σ
theorem passW {X : Cx} {W : WX} (tk : Takes X W) : ∀ σ, PassesAt (L2.CX X.prog X.w) X σ (WE W σ) := fun σ => passAt tk σ
theorem passF {X : Cx} : ∀ σ : St, PassesAt (L2.CX X.prog X.w) X σ E0 := fun _ _ _ _ _ _ _ h => by
  obtain ⟨_, _, _, _, _, _, _, _, _, _, _, _, z⟩ := h
  exact z.elim

def tCallZ (sp : Sp) (E : St → XK) (t : TA) : TE := fun σ H Q => t σ H fun vs H1 => sp vs H1 Q (E σ)
def methK (C : Addr) (sp : Sp) (E : XK) (m : Str) (t : TA) (σ : St) (x : V) (H : Hp) (Q : VK) : Prop := ∃ a dx fs, x = .ref a ∧ H a = some (.ins C dx fs) ∧ fs.lookup m = none ∧ t σ H fun vs H2 => sp (x :: vs) H2 Q E
def tMethZ (C : Addr) (m : Str) (sp : Sp) (E : St → XK) (ta : TE) (t : TA) : TE := fun σ H Q => ta σ H fun x H1 => methK C sp (E σ) m t σ x H1 Q
def makeK (C : Addr) (sp : Sp) (E : XK) (vs : List V) (H1 : Hp) (Q : VK) : Prop := ∀ x dx, H1 x = none → H1 dx = none → dx ≠ x →
  sp (.ref x :: vs) (upd (upd H1 dx (.own x)) x (.ins C dx [])) (fun v H2 => v = .non ∧ Q (.ref x) H2) E
def tMakeZ (C : Addr) (sp : Sp) (E : St → XK) (t : TA) : TE := fun σ H Q => t σ H fun vs H1 => makeK C sp (E σ) vs H1 Q
section
variable {X : Cx} {CX : CXT} {k : Nat} {ps : List Str} {sp : Sp} {E : St → XK} {x m C : Str} {p pos apos : Pos} {e o : Expr} {es : List Expr} {ta : TE} {t : TA}
theorem pe_fz (G : Con X.prog X.w X.K X.mg X.base CX k (x, none) ps sp) (hr : Room k X.A) (hg : Gl X x) (hm : X.mg x = some (.ref (He.ga X.K x))) (hx : ∀ σ, PassesAt CX X σ (E σ))
    (ha : PA X (e :: es) t) (hdb : (x == ("__debug__" : Str)) = false := by decide) (he : starEach (e :: es) X.env = (false, eval e X.env) :: starEach es X.env := by rfl) (hpl : (backTo pos (starEach es X.env)).any (·.1) = false := by rfl) :
    PE X (.Call (.Name x p) (e :: es) [] pos) (tCallZ sp E t) := by
  obtain ⟨⟨fd, F, b⟩, kp⟩ := G
  exact pe_callS (E := E) F hr hg hm kp b hx ha hdb he hpl
theorem pe_fz0 (G : Con X.prog X.w X.K X.mg X.base CX k (x, none) ps sp) (hr : Room k X.A) (hg : Gl X x) (hm : X.mg x = some (.ref (He.ga X.K x))) (hx : ∀ σ, PassesAt CX X σ (E σ))
    (hdb : (x == ("__debug__" : Str)) = false := by decide) : PE X (.Call (.Name x p) [] [] pos) (tCallZ sp E tNil) := by
  obtain ⟨⟨fd, F, b⟩, kp⟩ := G
  refine ⟨fun pins s σ H Q I h => ?_⟩
  refine wpAny_Call_Name_kw (ld_glob I hg hm ?_ hdb)
  exact PySem.W.callWith_K0 I.kIn kp (run_fnS (us := []) (E := E) F hr b (hx σ) I .nil h)
theorem pe_mz {pl : Sem Bool} (G : Con X.prog X.w X.K X.mg X.base CX k (C, some m) ps sp) (hr : Room k X.A) (c : Cls X.K (He.ga X.K C)) (hm : Meth X.K (He.ga X.K C) m (He.ma X.K (He.ga X.K C) m)) (hx : ∀ σ, PassesAt CX X σ (E σ))
    (he : PE X o ta) (ha : PA X (e :: es) t)
    (hst : starEach (e :: es) X.env = (false, eval e X.env) :: starEach es X.env := by rfl) (hpl : (backTo pos (starEach es X.env)).any (·.1) = false := by rfl)
    (ht : eval (.Call (.Attribute o m apos) (e :: es) [] pos) X.env = (do
      let ov ← eval o X.env
      standAt apos.atName
      let (f, first) ← holding [ov] (getMethod ov m pl)
      callWith pos f first (backTo pos (starEach (e :: es) X.env)) (backToKw pos (keywordEach [] X.env))) := by rfl) :
    PE X (.Call (.Attribute o m apos) (e :: es) [] pos) (tMethZ (He.ga X.K C) m sp E ta t) := by
  obtain ⟨⟨fd, F, b⟩, kp⟩ := G
  refine ⟨fun pins s σ H Q I h => ?_⟩
  refine PySem.W.methodCall_KW (pl := pl) (thn (he.run pins s σ H _ I h) fun u s1 ⟨x, H1, I1, rx, a, dx, fs, ex, ea, l, q⟩ => ?_) ht
  subst ex
  obtain rfl : u = Value.ref a := rx
  refine getmeth_ok I1 ea c hm l ?_
  refine PySem.W.callWith_K (first := [.ref a]) (h₀ := X.base) I.ok.mod.kin hm.kp (thn (ha.run pos pins s1 σ H1 _ I1 q) fun us s2 ⟨vs, H2, I2, r, q2⟩ => ⟨I2.kIn, ?_⟩) hst hpl
  exact run_fnS (us := .ref a :: us) (vs := .ref a :: vs) (E := E) F hr b (hx σ) I2 (.cons rfl r) q2
theorem pe_mz0 {pl : Sem Bool} (G : Con X.prog X.w X.K X.mg X.base CX k (C, some m) ps sp) (hr : Room k X.A) (c : Cls X.K (He.ga X.K C)) (hm : Meth X.K (He.ga X.K C) m (He.ma X.K (He.ga X.K C) m)) (hx : ∀ σ, PassesAt CX X σ (E σ))
    (he : PE X o ta)
    (ht : eval (.Call (.Attribute o m apos) [] [] pos) X.env = (do
      let ov ← eval o X.env
      standAt apos.atName
      let (f, first) ← holding [ov] (getMethod ov m pl)
      callWith pos f first (backTo pos (starEach [] X.env)) (backToKw pos (keywordEach [] X.env))) := by rfl) :
    PE X (.Call (.Attribute o m apos) [] [] pos) (tMethZ (He.ga X.K C) m sp E ta tNil) := by
  obtain ⟨⟨fd, F, b⟩, kp⟩ := G
  refine ⟨fun pins s σ H Q I h => ?_⟩
  refine PySem.W.methodCall_KW (pl := pl) (thn (he.run pins s σ H _ I h) fun u s1 ⟨x, H1, I1, rx, a, dx, fs, ex, ea, l, q⟩ => ?_) ht
  subst ex
  obtain rfl : u = Value.ref a := rx
  refine getmeth_ok I1 ea c hm l ?_
  exact PySem.W.callWith_K0 (first := [.ref a]) I1.kIn hm.kp (run_fnS (us := [.ref a]) (vs := [.ref a]) (E := E) F hr b (hx σ) I1 (.cons rfl .nil) q)
theorem pe_kz (G : Con X.prog X.w X.K X.mg X.base CX k (C, some "__init__") ps sp) (M : Mk X.K (He.ga X.K C) (He.ma X.K (He.ga X.K C) "__init__")) (hr : Room (k + 1) X.A) (hg : Gl X C) (hm : X.mg C = some (.ref (He.ga X.K C))) (hx : ∀ σ, PassesAt CX X σ (E σ))
    (ha : PA X (e :: es) t) (hdb : (C == ("__debug__" : Str)) = false := by decide) (he : starEach (e :: es) X.env = (false, eval e X.env) :: starEach es X.env := by rfl) (hpl : (backTo pos (starEach es X.env)).any (·.1) = false := by rfl) :
    PE X (.Call (.Name C p) (e :: es) [] pos) (tMakeZ (He.ga X.K C) sp E t) := by
  obtain ⟨⟨fd, F, b⟩, kp⟩ := G
  refine ⟨fun pins s σ H Q I h => ?_⟩
  refine wpAny_Call_Name_kw (ld_glob I hg hm ?_ hdb)
  refine PySem.W.callWith_K (h₀ := X.base) I.ok.mod.kin M.kp (thn (ha.run pos pins s σ H _ I h) fun us s1 ⟨vs, H1, I1, r, q⟩ => ⟨I1.kIn, ?_⟩) he hpl
  have hq := q (s1.heap.objs.size + 1) s1.heap.objs.size (I1.hok.fresh (Nat.le_succ _)) (I1.hok.fresh (Nat.le_refl _)) (Nat.ne_of_lt (Nat.lt_succ_self _))
  have I2 := Inv.made (C := He.ga X.K C) I1
  have r2 : Vals (V.ref (s1.heap.objs.size + 1) :: vs) (Value.ref (s1.heap.objs.size + 1) :: us) := .cons rfl r
  have hl : (Value.ref (s1.heap.objs.size + 1) :: us).length = ps.length := by
    have e := r2.length
    rw [F.len _ _ _ _ hq] at e
    exact e.symm
  have bb := b _ (Value.ref (s1.heap.objs.size + 1) :: us) I2.kIn (by rw [List.append_nil]; exact hl)
  rw [List.append_nil] at bb
  refine wpAny_call (make_map (f := He.ma X.K (He.ga X.K C) "__init__") I1.kIn M.makes M.init (beq_iff_eq.mp M.fn) (codeAny_mono (F.run _ X.stack _ _ ⟨Value.ref (s1.heap.objs.size + 1) :: us, []⟩ (Value.ref (s1.heap.objs.size + 1) :: us) _ _ (E σ) (hr.make (He.ga X.K C) us [])
    (I2.env0.make (He.ga X.K C) us []) bb r2 hq) fun r s' hq' => ?_))
  cases r with
  | error e => exact hx σ pins _ _ e s' I2 hq'
  | ok fl =>
    cases fl with
    | ret u =>
      obtain ⟨v, H', I3, rv, ev, q3⟩ := I2.after hq'
      subst ev
      exact ⟨rv, ⟨V.ref (s1.heap.objs.size + 1), H', I3, rfl, q3⟩⟩
    | next => exact False.elim hq'
    | brk => exact False.elim hq'
    | cont => exact False.elim hq'
end

/-! ### fields by a class's own record -/
structure FldOk {F : Type} (fl : F → List (Str × V)) (f : Str) (get : F → V) (put : V → F → F) : Prop where
  get : ∀ D, (fl D).lookup f = some (get D)
  put : ∀ v D, putF f v (fl D) = fl (put v D)
  few : ∀ D, (fl D).length < 1000
def fldK {F : Type} (C : Addr) (fl : F → List (Str × V)) (get : F → V) (x : V) (H : Hp) (Q : VK) : Prop := ∃ a dx D, x = .ref a ∧ H a = some (.ins C dx (fl D)) ∧ Q (get D) H
def tFldZ {F : Type} (C : Addr) (fl : F → List (Str × V)) (get : F → V) (ta : TE) : TE := fun σ H Q => ta σ H fun x H1 => fldK C fl get x H1 Q
def putKK {F : Type} (C : Addr) (fl : F → List (Str × V)) (put : V → F → F) (x y : V) (H : Hp) (Q : Hp → Prop) : Prop := ∃ a dx D, x = .ref a ∧ H a = some (.ins C dx (fl D)) ∧ Q (upd H a (.ins C dx (fl (put y D))))
def sFldZ {F : Type} (C : Addr) (fl : F → List (Str × V)) (put : V → F → F) (ta tv : TE) : TS := fun D σ H => tv σ H fun y H1 => ta σ H1 fun x H2 => putKK C fl put x y H2 (D.nx σ)
def augK {F : Type} (C : Addr) (fl : F → List (Str × V)) (get : F → V) (put : V → F → F) (tv : TE) (rd : V → V → Hp → VK → Prop) (σ : St) (x : V) (H : Hp) (Q : Hp → Prop) : Prop := ∃ a dx D, x = .ref a ∧ H a = some (.ins C dx (fl D)) ∧
  tv σ H fun y H2 => rd (get D) y H2 fun z H3 => ∃ dx' D', H3 a = some (.ins C dx' (fl D')) ∧ Q (upd H3 a (.ins C dx' (fl (put z D'))))
def sFldAugZ {F : Type} (C : Addr) (fl : F → List (Str × V)) (get : F → V) (put : V → F → F) (rd : V → V → Hp → VK → Prop) (ta tv : TE) : TS := fun D σ H => ta σ H fun x H1 => augK C fl get put tv rd σ x H1 (D.nx σ)
section
variable {X : Cx} {F : Type} {C : Addr} {fl : F → List (Str × V)} {f : Str} {get : F → V} {put : V → F → F} {o e value : Expr} {pos pos' tpos : Pos} {ta tv : TE}
theorem pe_fldz (c : Cls X.K C) (n : NoAttr X.K C f) (ok : FldOk fl f get put) (he : PE X e ta) (hb : attributeBase e f X.env (eval e X.env) = eval e X.env := by rfl) : PE X (.Attribute e f pos) (tFldZ C fl get ta) := by
  refine ⟨fun pins s σ H Q I h => ?_⟩
  refine attr_of hb (thn (he.run pins s σ H _ I h) fun u s1 ⟨x, H1, I1, rx, a, dx, D, ex, ea, q⟩ => ?_)
  subst ex
  obtain rfl : u = Value.ref a := rx
  exact getattr_ok I1 ea c n (ok.get D) fun u' s2 I2 ru => ⟨_, H1, I2, ru, q⟩
theorem ps_fldz (c : Cls X.K C) (n : NoAttr X.K C f) (ok : FldOk fl f get put) (ha : PE X o ta) (hv : PE X value tv) (hs : swapsWith value (some (.Attribute o f pos')) pos.line X.env = pure false := by rfl) : PS X (.Assign [.Attribute o f pos'] value pos) (sFldZ C fl put ta tv) := by
  refine ⟨fun pins s σ H D I h => ?_⟩
  refine plainObj_wpAny_Assign_Attribute (thn (hv.run pins s σ H _ I h) fun u s1 ⟨y, H1, I1, ry, q⟩ => thn (ha.run pins s1 σ H1 _ I1 q) fun ov s2 ⟨x, H2, I2, rx, a, dx, D', ex, ea, q2⟩ => ?_) hs
  subst ex
  obtain rfl : ov = Value.ref a := rx
  refine setattr_ok I2 ea c n (ok.few D') ry fun s3 I3 => ⟨σ, _, I3, ?_⟩
  rw [ok.put]
  exact q2
theorem ps_fldaugz {op : Operator} {rd : V → V → Hp → VK → Prop} (c : Cls X.K C) (n : NoAttr X.K C f) (ok : FldOk fl f get put) (ha : PE X o ta) (hv : PE X value tv) (hop : InOp X op rd) : PS X (.AugAssign (.Attribute o f tpos) op value pos) (sFldAugZ C fl get put rd ta tv) := by
  refine ⟨fun pins s σ H D I h => ?_⟩
  refine wpAny_AugAssign_AttributeAny (thn (ha.run pins s σ H _ I h) fun ov s1 ⟨x, H1, I1, rx, a, dx, D', ex, ea, q⟩ => ?_)
  subst ex
  obtain rfl : ov = Value.ref a := rx
  refine getattr_ok I1 ea c n (ok.get D') fun u s2 I2 ru => thn (hv.run pins s2 σ H1 _ I2 q) fun w3 s3 ⟨y, H2, I3, ry, q3⟩ => thn (hop pins s3 σ H2 _ y u w3 _ I3 ru ry q3) fun w4 s4 ⟨z, H3, I4, rz, dx', D2, ea', q4⟩ => ?_
  refine setattr_ok I4 ea' c n (ok.few D2) rz fun s5 I5 => ⟨σ, _, I5, ?_⟩
  rw [ok.put]
  exact q4
end

/-- in __init__: the attributes come one by one -/
def fldIK (C : Addr) (f : Str) (x : V) (H : Hp) (Q : VK) : Prop := ∃ a dx fs v, x = .ref a ∧ H a = some (.ins C dx fs) ∧ fs.lookup f = some v ∧ Q v H
def tFldI (C : Addr) (f : Str) (ta : TE) : TE := fun σ H Q => ta σ H fun x H1 => fldIK C f x H1 Q
theorem pe_fldI {X : Cx} {C : Addr} {f : Str} {e : Expr} {pos : Pos} {ta : TE} (c : Cls X.K C) (n : NoAttr X.K C f) (he : PE X e ta) (hb : attributeBase e f X.env (eval e X.env) = eval e X.env := by rfl) : PE X (.Attribute e f pos) (tFldI C f ta) := by
  refine ⟨fun pins s σ H Q I h => ?_⟩
  refine attr_of hb (thn (he.run pins s σ H _ I h) fun u s1 ⟨x, H1, I1, rx, a, dx, fs, v, ex, ea, l, q⟩ => ?_)
  subst ex
  obtain rfl : u = Value.ref a := rx
  exact getattr_ok I1 ea c n l fun u' s2 I2 ru => ⟨_, H1, I2, ru, q⟩
def initK (C : Addr) (f : Str) (x y : V) (H : Hp) (Q : Hp → Prop) : Prop := ∃ a dx fs, x = .ref a ∧ H a = some (.ins C dx fs) ∧ fs.length < 1000 ∧ Q (upd H a (.ins C dx (putF f y fs)))
def sFldI (C : Addr) (f : Str) (ta tv : TE) : TS := fun D σ H => tv σ H fun y H1 => ta σ H1 fun x H2 => initK C f x y H2 (D.nx σ)
section
variable {X : Cx} {C : Addr} {f : Str} {o value : Expr} {pos pos' : Pos} {ta tv : TE}
theorem ps_fldi (c : Cls X.K C) (n : NoAttr X.K C f) (ha : PE X o ta) (hv : PE X value tv) (hs : swapsWith value (some (.Attribute o f pos')) pos.line X.env = pure false := by rfl) : PS X (.Assign [.Attribute o f pos'] value pos) (sFldI C f ta tv) := by
  refine ⟨fun pins s σ H D I h => ?_⟩
  refine plainObj_wpAny_Assign_Attribute (thn (hv.run pins s σ H _ I h) fun u s1 ⟨y, H1, I1, ry, q⟩ => thn (ha.run pins s1 σ H1 _ I1 q) fun ov s2 ⟨x, H2, I2, rx, a, dx, fs, ex, ea, l, q2⟩ => ?_) hs
  subst ex
  obtain rfl : ov = Value.ref a := rx
  exact setattr_ok I2 ea c n l ry fun s3 I3 => ⟨σ, _, I3, q2⟩
end
theorem few_a {α : Type} {fs : List α} (h : fs.length + 0 < 1000) : fs.length < 1000 := h
theorem few_s {f : Str} {v : V} {fs : List (Str × V)} {k : Nat} (h : fs.length + (k + 1) < 1000) : (putF f v fs).length + k < 1000 := by
  have := length_putF f v fs
  omega
theorem few_z {α : Type} {k : Nat} (h : k < 1000) : ([] : List α).length + k < 1000 := by rw [List.length_nil, Nat.zero_add]; exact h

/-! ### dict.update(dict); a list's item, op= -/
def rDUpd : V → List V → Hp → VK → Prop := fun x vs H Q => ∃ (a b : Addr) (kvs more : List (Key × V)), x = .ref a ∧ vs = [.ref b] ∧ H a = some (.dK kvs) ∧ H b = some (.dK more) ∧ a ≠ b ∧ kvs.length + more.length ≤ sizeLine ∧ Q .non (upd H a (.dK (mergeK kvs more)))
theorem mt_dupd {X : Cx} : MtR X "dict.update" rDUpd := by
  intro pins s σ H x vs v us Q I rx rv h
  obtain ⟨a, b, kvs, more, ex, ev, ea, eb, hab, hz, q⟩ := h
  subst ex
  subst ev
  obtain rfl : v = Value.ref a := rx
  obtain ⟨u, rfl, ru⟩ := rv.one
  obtain rfl : u = Value.ref b := ru
  obtain ⟨z, hd, vs1, rel, dd⟩ := dk_of I.hok ea
  obtain ⟨z2, hd2, vs2, rel2, dd2⟩ := dk_of I.hok eb
  refine call_meetsIn PySem.F.slot_dict_update dd.typeIs PySem.F.entry_dict_update (PySem.F.args_dict_update_2 _ _) (meets_dict_update (mixKind X.prog X.w) a b hab hd2) ⟨vs1, vs2, dd, dd2, by rw [← rel.length, ← rel2.length]; exact hz, fun h' dd' _ hs => ?_⟩
  have he : ∃ q, h'.get? a = some q := let ⟨q, _, _, hq, _⟩ := dd'; ⟨q, hq⟩
  exact ⟨.non, _, d_write (t' := s.toks) I (by rw [ea]; exact True.intro) hs he (dk_new (Nat.le_trans (length_mergeK _ _) hz) hd (rel2.merge rel) dd'), rfl, q⟩
theorem get_list {X : Cx} : PGet X (rIxL X.K) := by
  intro pins s σ H x y v u Q I rx ry h
  obtain ⟨p, xs, i, z, rfl, rfl, hq, he, q⟩ := h
  cases rx
  obtain ⟨t, rfl⟩ := ry
  obtain ⟨its, r, pl, hz⟩ := I.list hq
  obtain ⟨j, h1, h2, h3, h4, h5⟩ := atI_get he
  obtain ⟨w, ew, rw'⟩ := r.get h2
  have hl := r.length
  have hn := line63
  have fin : EP X pins σ Q w s := ⟨z, H, I, rw', q⟩
  by_cases h0 : 0 ≤ i
  · have hj : i.toNat = j := by
      rw [seqIndex_of h0 h5] at h1
      exact Option.some.inj h1
    exact wpAny_getItem_list pl.isList h0 (by omega) (by rw [hj]; simpa using ew) fin
  · have hj : (i + (its.toArray.size : Int)).toNat = j := by
      rw [seqIndex_neg (by omega) h4] at h1
      rw [List.size_toArray, ← hl]
      exact Option.some.inj h1
    exact wpAny_getItem_list_neg pl.isList (by omega) (by rw [List.size_toArray] <;> omega) (by omega) (by rw [hj]; simpa using ew) fin

/-! ### try, named; isinstance of the held exception -/
def tTry (K : PySem.W.Frag) (c : Value) (tb : WX → TS) (ts : Addr → Value → Option Addr → TS) (Wout : WX) : TS := fun D σ H => tb (wOnly K c ts Wout D) D σ H
def tTryAs (K : PySem.W.Frag) (c : Value) (i : Nat) (tb : WX → TS) (ts : Addr → Value → Option Addr → TS) (Wout : WX) : TS := fun D σ H => tb (wAs K c i ts Wout D) D σ H
def rIsZ (K : PySem.W.Frag) (a : Addr) (cls : Value) (d : Option Addr) : List V → Hp → VK → Prop := fun xs H Q => ∃ D, cls = .ref D ∧ d = none ∧ ExcC K D ∧ rIsE K D a xs H Q
theorem call_isZ {X : Cx} {a : Addr} {oe : Obj} {cls : Value} {d : Option Addr} {pn : List (Addr × Obj)} (hz : Zc cls d oe) (hf : ∃ vs, oe.data = .fields vs) : CallR (X.suite a ((a, oe) :: pn)) (.builtin "isinstance") (rIsZ X.K a cls d) := by
  intro pins s σ H xs us Q I r h
  obtain ⟨D, e1, e2, C, h⟩ := h
  subst e1 e2
  exact call_isE C hz hf pins s σ H xs us Q I r h
/-- raise C('..') -/
def tRaiseZ (W : WX) (cls : Value) : TS := fun _ σ H => W cls none σ H
end
/-! Q1 -/
section
open PySem PySem.Spec PyProof.Rows

def blK (x : V) (H : Hp) (Q : Bool → Hp → Prop) : Prop := ∃ k, x = .bl k ∧ Q k H
def andK (b : Bool) (u : TT) (σ : St) (H : Hp) (Q : Bool → Hp → Prop) : Prop := if b = true then u σ H Q else Q false H
def orK (b : Bool) (u : TT) (σ : St) (H : Hp) (Q : Bool → Hp → Prop) : Prop := if b = true then Q true H else u σ H Q
def ifK (b : Bool) (A B : Prop) : Prop := if b = true then A else B
theorem if_dec {p : Prop} [Decidable p] {A B : Prop} (h1 : p → A) (h2 : ¬p → B) : ifK (decide p) A B := by
  unfold ifK
  by_cases h : p
  · rw [decide_eq_true h, if_pos rfl]; exact h1 h
  · rw [decide_eq_false h, if_neg Bool.false_ne_true]; exact h2 h
theorem if_not {p : Prop} [Decidable p] {A B : Prop} (h1 : ¬p → A) (h2 : p → B) : ifK (!decide p) A B := by
  unfold ifK
  by_cases h : p
  · rw [decide_eq_true h]; exact iteF (h2 h)
  · rw [decide_eq_false h]; exact iteT (h1 h)
theorem if_bool {b : Bool} {A B : Prop} (h1 : b = true → A) (h2 : b = false → B) : ifK b A B := by
  unfold ifK
  cases b with
  | true => exact iteT (h1 rfl)
  | false => exact iteF (h2 rfl)
theorem if_ft {b : Bool} {A B : Prop} (h : B) (h1 : b = true → B → A) : ifK b A B := if_bool (fun e => h1 e h) (fun _ => h)
theorem if_Fr {A B : Prop} (h : ifK false A B) : B := by
  unfold ifK at h
  rwa [if_neg Bool.false_ne_true] at h
theorem if_T {A B : Prop} (h : A) : ifK true A B := iteT h
theorem if_F {A B : Prop} (h : B) : ifK false A B := iteF h
theorem if_nT {A B : Prop} (h : B) : ifK (!true) A B := iteF h
theorem if_nF {A B : Prop} (h : A) : ifK (!false) A B := iteT h
theorem if_to {b c : Bool} {A B : Prop} (e : b = c) (h : ifK c A B) : ifK b A B := e ▸ h

section
variable {σ : St} {H : Hp} {D : Ends} {t u : TS} {te ta tb tc tv : TE} {c c' : TT} {Q : VK} {g : TG} {gs : TGs} {v x y z : V} {i j : Nat} {tr : TA} {K : PySem.W.Frag}
/-! ### statements -/
theorem g_seq (h : t { D with nx := u D } σ H) : tSeq t u D σ H := h
/-- a cut: what holds between two statements -/
theorem g_seqH (I : St → Hp → Prop) (h2 : ∀ σ H, I σ H → u D σ H) (h1 : ∀ N : St → Hp → Prop, (∀ σ H, I σ H → N σ H) → t { D with nx := N } σ H) : tSeq t u D σ H := h1 (u D) h2
theorem g_next (h : D.nx σ H) : tNext D σ H := h
theorem g_brk (h : D.bk σ H) : tBreak D σ H := h
theorem g_cont (h : D.ct σ H) : tCont D σ H := h
theorem g_asg (h : te σ H fun x H1 => g x σ H1 D.nx) : tAsg te g D σ H := h
theorem g_drop (h : te σ H fun _ H1 => D.nx σ H1) : tDrop te D σ H := h
theorem g_ret (h : te σ H D.rt) : tRet te D σ H := h
theorem g_retN (h : D.rt .non H) : tRetN D σ H := h
theorem g_ifs (h : c σ H fun b H1 => ifK b (t D σ H1) (u D σ H1)) : tIfS c t u D σ H := h
theorem g_raise {W : WX} {cls : Value} (h : W cls none σ H) : tRaiseZ W cls D σ H := h
theorem g_try {cc : Value} {tb : WX → TS} {ts : Addr → Value → Option Addr → TS} {Wout : WX} (h : tb (wOnly K cc ts Wout D) D σ H) : tTry K cc tb ts Wout D σ H := h
theorem g_tryAs {cc : Value} {tb : WX → TS} {ts : Addr → Value → Option Addr → TS} {Wout : WX} (h : tb (wAs K cc i ts Wout D) D σ H) : tTryAs K cc i tb ts Wout D σ H := h
theorem g_sfld {f : Str} (h : tv σ H fun y H1 => ta σ H1 fun x H2 => ∃ a C dx fs, x = .ref a ∧ H2 a = some (.ins C dx fs) ∧ Cls K C ∧ NoAttr K C f ∧ fs.length < 1000 ∧ D.nx σ (upd H2 a (.ins C dx (putF f y fs)))) : sFld K ta tv f D σ H := h
theorem g_sfldi {C : Addr} {f : Str} (h : tv σ H fun y H1 => ta σ H1 fun x H2 => initK C f x y H2 (D.nx σ)) : sFldI C f ta tv D σ H := h
theorem g_initK {C a dx : Addr} {f : Str} {fs : List (Str × V)} {R : Hp → Prop} (e : H a = some (.ins C dx fs)) (l : fs.length < 1000) (q : R (upd H a (.ins C dx (putF f y fs)))) : initK C f (.ref a) y H R := ⟨a, dx, fs, rfl, e, l, q⟩
theorem g_sfldz {F : Type} {C : Addr} {fl : F → List (Str × V)} {put : V → F → F} (h : tv σ H fun y H1 => ta σ H1 fun x H2 => putKK C fl put x y H2 (D.nx σ)) : sFldZ C fl put ta tv D σ H := h
theorem g_putKK {F : Type} {C a dx : Addr} {fl : F → List (Str × V)} {put : V → F → F} {E : F} {R : Hp → Prop} (e : H a = some (.ins C dx (fl E))) (q : R (upd H a (.ins C dx (fl (put y E))))) : putKK C fl put (.ref a) y H R := ⟨a, dx, E, rfl, e, q⟩
theorem g_augz {F : Type} {C : Addr} {fl : F → List (Str × V)} {get : F → V} {put : V → F → F} {rd : V → V → Hp → VK → Prop} (h : ta σ H fun x H1 => augK C fl get put tv rd σ x H1 (D.nx σ)) : sFldAugZ C fl get put rd ta tv D σ H := h
def augE {F : Type} (C a : Addr) (fl : F → List (Str × V)) (put : V → F → F) (z : V) (H3 : Hp) (R : Hp → Prop) : Prop := ∃ dx' E', H3 a = some (.ins C dx' (fl E')) ∧ R (upd H3 a (.ins C dx' (fl (put z E'))))
theorem g_augE {F : Type} {C a dx : Addr} {fl : F → List (Str × V)} {put : V → F → F} {E : F} {R : Hp → Prop} (e : H a = some (.ins C dx (fl E))) (q : R (upd H a (.ins C dx (fl (put z E))))) : augE C a fl put z H R := ⟨dx, E, e, q⟩
theorem g_augK {F : Type} {C a dx : Addr} {fl : F → List (Str × V)} {get : F → V} {put : V → F → F} {rd : V → V → Hp → VK → Prop} {E : F} {R : Hp → Prop} (e : H a = some (.ins C dx (fl E)))
    (q : tv σ H fun y H2 => rd (get E) y H2 fun z H3 => augE C a fl put z H3 R) : augK C fl get put tv rd σ (.ref a) H R := ⟨a, dx, E, rfl, e, q⟩
def dputE (a : Addr) (y z : V) (H4 : Hp) (R : Hp → Prop) : Prop := ∃ H5, DPut H4 a y z H5 ∧ R H5
def dputK (x y v : V) (H3 : Hp) (R : Hp → Prop) : Prop := ∃ a H4, x = .ref a ∧ DPut H3 a y v H4 ∧ R H4
def daugK (x y : V) (tv : TE) (rd : V → V → Hp → VK → Prop) (σ : St) (H2 : Hp) (R : Hp → Prop) : Prop := ∃ a v, x = .ref a ∧ DGet H2 a y (some v) ∧ tv σ H2 fun w H3 => rd v w H3 fun z H4 => dputE a y z H4 R
theorem g_dput {td ty : TE} (h : tv σ H fun v H1 => td σ H1 fun x H2 => ty σ H2 fun y H3 => dputK x y v H3 (D.nx σ)) : sDPut td ty tv D σ H := h
theorem g_dputS {a : Addr} {kvs kvs' : List (Key × V)} {k : Str} {R : Hp → Prop} (e : H a = some (.dK kvs)) (p : putK kvs (Sum.inr k) v = kvs') (l : kvs.length < 100000) (q : R (upd H a (.dK kvs'))) : dputK (.ref a) (.str k) v H R := by
  subst p
  exact ⟨a, _, rfl, .inl ⟨kvs, Sum.inr k, e, rfl, Nat.lt_trans l (by decide), rfl⟩, q⟩
theorem g_dputI {a : Addr} {kvs : List (Key × V)} {k : Int} {R : Hp → Prop} (e : H a = some (.dK kvs)) (l : kvs.length < 100000) (q : R (upd H a (.dK (putK kvs (Sum.inl k) v)))) : dputK (.ref a) (.int k) v H R :=
  ⟨a, _, rfl, .inl ⟨kvs, Sum.inl k, e, rfl, Nat.lt_trans l (by decide), rfl⟩, q⟩
theorem g_dputES {a : Addr} {kvs kvs' : List (Key × V)} {k : Str} {R : Hp → Prop} (e : H a = some (.dK kvs)) (p : putK kvs (Sum.inr k) v = kvs') (l : kvs.length < 100000) (q : R (upd H a (.dK kvs'))) : dputE a (.str k) v H R := by
  subst p
  exact ⟨_, .inl ⟨kvs, Sum.inr k, e, rfl, Nat.lt_trans l (by decide), rfl⟩, q⟩
theorem g_dputEI {a : Addr} {kvs : List (Key × V)} {k : Int} {R : Hp → Prop} (e : H a = some (.dK kvs)) (l : kvs.length < 100000) (q : R (upd H a (.dK (putK kvs (Sum.inl k) v)))) : dputE a (.int k) v H R :=
  ⟨_, .inl ⟨kvs, Sum.inl k, e, rfl, Nat.lt_trans l (by decide), rfl⟩, q⟩
theorem g_daug {td ty : TE} {rd : V → V → Hp → VK → Prop} (h : td σ H fun x H1 => ty σ H1 fun y H2 => daugK x y tv rd σ H2 (D.nx σ)) : sDAug td ty tv rd D σ H := h
theorem g_daugS {a : Addr} {kvs : List (Key × V)} {k : Str} {rd : V → V → Hp → VK → Prop} {R : Hp → Prop} (e : H a = some (.dK kvs)) (l : valV kvs (Sum.inr k) = some v) (q : tv σ H fun w H3 => rd v w H3 fun z H4 => dputE a (.str k) z H4 R) : daugK (.ref a) (.str k) tv rd σ H R :=
  ⟨a, v, rfl, .inl ⟨kvs, Sum.inr k, .inl e, rfl, l.symm⟩, q⟩
theorem g_daugI {a : Addr} {kvs : List (Key × V)} {k : Int} {rd : V → V → Hp → VK → Prop} {R : Hp → Prop} (e : H a = some (.dK kvs)) (l : valV kvs (Sum.inl k) = some v) (q : tv σ H fun w H3 => rd v w H3 fun z H4 => dputE a (.int k) z H4 R) : daugK (.ref a) (.int k) tv rd σ H R :=
  ⟨a, v, rfl, .inl ⟨kvs, Sum.inl k, .inl e, rfl, l.symm⟩, q⟩
theorem putK_h {r : List (Key × V)} {k : Key} {x : V} (h : valV r k = none) : putK ((k, x) :: r) k v = (k, v) :: r := by
  unfold putK
  rw [List.any_cons, decide_eq_true rfl, Bool.true_or, if_pos rfl, List.map_cons, if_pos rfl]
  congr 1
  have hn : (r.any fun kv => decide (kv.1 = k)) = false := by rw [valV_any, h]; rfl
  rw [List.any_eq_false] at hn
  conv => rhs; rw [← List.map_id r]
  refine List.map_congr_left fun p hp => ?_
  have := hn p hp
  rw [if_neg (by simpa using this)]
  rfl
theorem putK_c {r : List (Key × V)} {k j : Key} {x : V} (n : ¬ j = k) (h : (valV r k).isSome = true) : putK ((j, x) :: r) k v = (j, x) :: putK r k v := by
  have ha : (r.any fun kv => decide (kv.1 = k)) = true := by rw [valV_any, h]
  unfold putK
  rw [List.any_cons, decide_eq_false n, Bool.false_or, ha, if_pos rfl, if_pos rfl, List.map_cons, if_neg n]
theorem valV_h {r : List (Key × V)} {k : Key} {x : V} : valV ((k, x) :: r) k = some x := valV_pos rfl
theorem valV_c {r : List (Key × V)} {k j : Key} {x : V} (n : ¬ j = k) : valV ((j, x) :: r) k = valV r k := valV_neg (p := (j, x)) n
def dispK (p : Addr) (ps : List (V × V)) (H2 : Hp) (Q : VK) : Prop := H2 p = some (.dK []) ∧ ∃ kvs : List (Key × V), ps = kvs.map (fun kv => (kV kv.1, kv.2)) ∧ kvs.length ≤ 15 ∧ Q (.ref p) (upd H2 p (.dK (mergeK [] kvs)))
theorem g_disp {trs : List (TE × TE)} (h : ∀ p, H p = none → tPairs trs σ (upd H p (.dK [])) fun ps H2 => dispK p ps H2 Q) : tDisp trs σ H Q := h
theorem g_pnil {R : List (V × V) → Hp → Prop} (h : R [] H) : tPairs [] σ H R := h
theorem g_pcons {R : List (V × V) → Hp → Prop} {r : List (TE × TE)} (h : ta σ H fun x H1 => tb σ H1 fun y H2 => tPairs r σ H2 fun ps H3 => R ((x, y) :: ps) H3) : tPairs ((ta, tb) :: r) σ H R := h
theorem g_dispK {p : Addr} {ps : List (V × V)} (kvs : List (Key × V)) {kvs' : List (Key × V)} (e : H p = some (.dK [])) (ep : ps = kvs.map (fun kv => (kV kv.1, kv.2))) (l : kvs.length ≤ 15) (em : mergeK [] kvs = kvs') (q : Q (.ref p) (upd H p (.dK kvs'))) : dispK p ps H Q := by
  subst em
  exact ⟨e, kvs, ep, l, q⟩
theorem g_dnewK (h : ∀ p, H p = none → Q (.ref p) (upd H p (.dK []))) : tDNewK σ H Q := h
def dg2E (a : Addr) (y z : V) (H3 : Hp) (Q : VK) : Prop := ∃ o, DGet H3 a y o ∧ Q (o.getD z) H3
def dg2K (x : V) (ty tx : TE) (σ : St) (H1 : Hp) (Q : VK) : Prop := ∃ a, x = .ref a ∧ IsD H1 a ∧ ty σ H1 fun y H2 => tx σ H2 fun z H3 => dg2E a y z H3 Q
theorem g_dget2 {td ty tx : TE} (h : td σ H fun x H1 => dg2K x ty tx σ H1 Q) : tDGet2 td ty tx σ H Q := h
theorem g_dg2K {a : Addr} {kvs : List (Key × V)} {ty tx : TE} (e : H a = some (.dK kvs)) (h : ty σ H fun y H2 => tx σ H2 fun z H3 => dg2E a y z H3 Q) : dg2K (.ref a) ty tx σ H Q := ⟨a, rfl, .inl ⟨kvs, .inl e⟩, h⟩
theorem g_dg2EI {a : Addr} {kvs : List (Key × V)} {k : Int} (e : H a = some (.dK kvs)) (q : Q ((valV kvs (Sum.inl k)).getD z) H) : dg2E a (.int k) z H Q := ⟨_, .inl ⟨kvs, Sum.inl k, .inl e, rfl, rfl⟩, q⟩
theorem g_aug {ti : TIp} (e : σ[i]? = some (some x)) (h : te σ H fun y H1 => ti x y H1 fun z H2 => D.nx (σ.set i (some z)) H2) : tAug i te ti D σ H := ⟨x, e, h⟩
theorem g_augS {to ti : TE} {tget : V → V → Hp → VK → Prop} {tip : TIp} {tset : TSet} (h : to σ H fun o H1 => ti σ H1 fun i H2 => tget o i H2 fun x H3 => te σ H3 fun y H4 => tip x y H4 fun z H5 => tset o i z H5 fun H6 => D.nx σ H6) : tAugS to ti te tget tip tset D σ H := h
theorem g_ipI {f : Int → Int → Int} {a b : Int} (q : Q (.int (f a b)) H) : ipI f (.int a) (.int b) H Q := ⟨a, b, rfl, rfl, q⟩
theorem g_ipAdd {a b : Int} (q : Q (.int (a + b)) H) : ipI (fun i j => i + j) (.int a) (.int b) H Q := ⟨a, b, rfl, rfl, q⟩
theorem g_ipSub {a b : Int} (q : Q (.int (a - b)) H) : ipI (fun i j => i - j) (.int a) (.int b) H Q := ⟨a, b, rfl, rfl, q⟩
theorem lkp_hit {f : Str} {w : V} {fs : List (Str × V)} : (putF f w fs).lookup f = some w := by rw [lookup_putF, if_pos rfl]
theorem lkp_ne {f k : Str} {w u : V} {fs : List (Str × V)} (h : ¬ k = f) (e : fs.lookup k = some u) : (putF f w fs).lookup k = some u := by rw [lookup_putF, if_neg h]; exact e
/-! ### targets -/
theorem g_name {R : St → Hp → Prop} (h : R (σ.set i (some v)) H) : gName i v σ H R := h
theorem g_tup {n : Nat} {a : Addr} {xs : List V} {R : St → Hp → Prop} (e : H a = some (.tup xs)) (l : xs.length = n) (h : gs xs σ H R) : gTup K n gs (.ref a) σ H R := ⟨a, xs, rfl, Evl.st_of e, l, h⟩
theorem g_tupQ {n : Nat} {a : Addr} {xs : List V} {R : St → Hp → Prop} (e : SqT K H a xs) (l : xs.length = n) (h : gs xs σ H R) : gTup K n gs (.ref a) σ H R := ⟨a, xs, rfl, e, l, h⟩
theorem g_gcons {r : List V} {R : St → Hp → Prop} (h : g v σ H fun σ' H' => gs r σ' H' R) : gCons g gs (v :: r) σ H R := ⟨v, r, rfl, h⟩
theorem g_gnil {R : St → Hp → Prop} (h : R σ H) : gNil [] σ H R := ⟨rfl, h⟩
theorem g_gsub {to ti : TE} {s : TSet} {R : St → Hp → Prop} (h : to σ H fun o H1 => ti σ H1 fun i H2 => s o i v H2 fun H3 => R σ H3) : gSub to ti s v σ H R := h
theorem g_setL {p : Addr} {xs : List V} {k : Int} {m : Nat} {R : Hp → Prop} (e : H p = some (.lst xs)) (l : ixN xs.length k = some m) (q : R (upd H p (.lst (xs.set m v)))) : rSetL (.ref p) (.int k) v H R := ⟨p, xs, k, m, rfl, rfl, e, l, q⟩
/-! ### expressions -/
theorem g_var (e : σ[i]? = some (some v)) (q : Q v H) : tVar i σ H Q := ⟨v, e, q⟩
theorem g_c (q : Q v H) : tC v σ H Q := q
theorem g_op {r : R2} (h : ta σ H fun x H1 => tb σ H1 fun y H2 => r x y H2 Q) : tOp r ta tb σ H Q := h
theorem g_un {r : V → Hp → VK → Prop} (h : ta σ H fun x H1 => r x H1 Q) : tUn r ta σ H Q := h
theorem g_nil {R : List V → Hp → Prop} (q : R [] H) : tNil σ H R := q
theorem g_cons {R : List V → Hp → Prop} (h : ta σ H fun x H1 => tr σ H1 fun xs H2 => R (x :: xs) H2) : tCons ta tr σ H R := h
def tupK (xs : List V) (H1 : Hp) (Q : VK) : Prop := xs.length ≤ sizeLine ∧ ∀ p, H1 p = none → Q (.ref p) (upd H1 p (.tup xs))
def lstK (xs : List V) (H1 : Hp) (Q : VK) : Prop := xs.length ≤ sizeLine ∧ ∀ p, H1 p = none → Q (.ref p) (upd H1 p (.lst xs))
theorem g_tTup (h : tr σ H fun xs H1 => tupK xs H1 Q) : tTup tr σ H Q := h
theorem g_tLst (h : tr σ H fun xs H1 => lstK xs H1 Q) : tLst tr σ H Q := h
theorem g_tupK {xs : List V} (l : xs.length ≤ 100000) (h : ∀ p, H p = none → Q (.ref p) (upd H p (.tup xs))) : tupK xs H Q := ⟨Evl.sz_of l, h⟩
theorem g_lstK {xs : List V} (l : xs.length ≤ 100000) (h : ∀ p, H p = none → Q (.ref p) (upd H p (.lst xs))) : lstK xs H Q := ⟨Evl.sz_of l, h⟩
theorem g_fldz {F : Type} {C : Addr} {fl : F → List (Str × V)} {get : F → V} (h : ta σ H fun x H1 => fldK C fl get x H1 Q) : tFldZ C fl get ta σ H Q := h
theorem g_fldK {F : Type} {C a dx : Addr} {fl : F → List (Str × V)} {get : F → V} {E : F} (e : H a = some (.ins C dx (fl E))) (q : Q (get E) H) : fldK C fl get (.ref a) H Q := ⟨a, dx, E, rfl, e, q⟩
theorem g_fldI {C : Addr} {f : Str} (h : ta σ H fun x H1 => fldIK C f x H1 Q) : tFldI C f ta σ H Q := h
theorem g_fldIK {C a dx : Addr} {f : Str} {fs : List (Str × V)} {w : V} (e : H a = some (.ins C dx fs)) (l : fs.lookup f = some w) (q : Q w H) : fldIK C f (.ref a) H Q := ⟨a, dx, fs, w, rfl, e, l, q⟩
theorem g_cb {r : List V → Hp → VK → Prop} (h : tr σ H fun vs H1 => r vs H1 Q) : tCB r tr σ H Q := h
theorem g_callz {sp : Sp} {E : St → XK} (h : tr σ H fun vs H1 => sp vs H1 Q (E σ)) : tCallZ sp E tr σ H Q := h
theorem g_methz {C : Addr} {m : Str} {sp : Sp} {E : St → XK} (h : ta σ H fun x H1 => methK C sp (E σ) m tr σ x H1 Q) : tMethZ C m sp E ta tr σ H Q := h
theorem g_methK {C a dx : Addr} {m : Str} {sp : Sp} {E : XK} {fs : List (Str × V)} (e : H a = some (.ins C dx fs)) (l : fs.lookup m = none) (h : tr σ H fun vs H2 => sp (.ref a :: vs) H2 Q E) : methK C sp E m tr σ (.ref a) H Q := ⟨a, dx, fs, rfl, e, l, h⟩
theorem g_makez {C : Addr} {sp : Sp} {E : St → XK} (h : tr σ H fun vs H1 => makeK C sp (E σ) vs H1 Q) : tMakeZ C sp E tr σ H Q := h
def bmK (K : PySem.W.Frag) (T : String) (r : V → List V → Hp → VK → Prop) (tr : TA) (σ : St) (x : V) (H : Hp) (Q : VK) : Prop := tyV K T x H ∧ tr σ H fun xs H2 => r x xs H2 Q
theorem g_bm {T : String} {r : V → List V → Hp → VK → Prop} (h : ta σ H fun x H1 => bmK K T r tr σ x H1 Q) : tBM K T r ta tr σ H Q := h
theorem g_bmL {r : V → List V → Hp → VK → Prop} {p : Addr} {xs : List V} (e : H p = some (.lst xs)) (h : tr σ H fun ys H2 => r (.ref p) ys H2 Q) : bmK K "list" r tr σ (.ref p) H Q := ⟨.inl ⟨rfl, _, SqL.of e⟩, h⟩
theorem g_bmD {r : V → List V → Hp → VK → Prop} {p : Addr} {kvs : List (Key × V)} (e : H p = some (.dK kvs)) (h : tr σ H fun ys H2 => r (.ref p) ys H2 Q) : bmK K "dict" r tr σ (.ref p) H Q := ⟨.inr (.inr (.inl ⟨rfl, .inl ⟨_, e⟩⟩)), h⟩
def bm0K (K : PySem.W.Frag) (T : String) (r : V → List V → Hp → VK → Prop) (x : V) (H : Hp) (Q : VK) : Prop := tyV K T x H ∧ r x [] H Q
theorem g_bm0 {T : String} {r : V → List V → Hp → VK → Prop} (h : ta σ H fun x H1 => bm0K K T r x H1 Q) : tBM0 K T r ta σ H Q := h
theorem g_bm0L {r : V → List V → Hp → VK → Prop} {p : Addr} {xs : List V} (e : H p = some (.lst xs)) (h : r (.ref p) [] H Q) : bm0K K "list" r (.ref p) H Q := ⟨.inl ⟨rfl, _, SqL.of e⟩, h⟩
theorem g_append {l : Addr} {xs : List V} (e : H l = some (.lst xs)) (z : xs.length < sizeLine) (q : Q .non (upd H l (.lst (xs ++ [y])))) : rAppend (.ref l) [y] H Q := ⟨l, xs, y, rfl, rfl, e, z, q⟩
theorem g_dupd {a b : Addr} {kvs more : List (Key × V)} (ea : H a = some (.dK kvs)) (eb : H b = some (.dK more)) (n : a ≠ b) (z : kvs.length + more.length ≤ 1000) (q : Q .non (upd H a (.dK (mergeK kvs more)))) : rDUpd (.ref a) [.ref b] H Q :=
  ⟨a, b, kvs, more, rfl, rfl, ea, eb, n, Nat.le_trans z (by decide), q⟩
theorem g_dupdM {a b : Addr} {kvs more kvs' : List (Key × V)} (ea : H a = some (.dK kvs)) (eb : H b = some (.dK more)) (n : a ≠ b) (z : kvs.length + more.length ≤ 1000) (em : mergeK kvs more = kvs') (q : Q .non (upd H a (.dK kvs'))) : rDUpd (.ref a) [.ref b] H Q := by
  subst em
  exact g_dupd ea eb n z q
theorem v_isZ {D a A : Addr} {b : Bool} (C : ExcC K D) (k : PySem.W.kitOne K (.ref D) (.ref A) = some b) (q : Q (.bl b) H) : rIsZ K a (.ref D) none [.ref a, .ref A] H Q := ⟨D, rfl, rfl, C, .ref A, .ref A, b, rfl, fun u h => h, k, q⟩
theorem v_isZT {D a : Addr} {t : String} {b : Bool} (C : ExcC K D) (k : PySem.W.kitOne K (.ref D) (.type t) = some b) (q : Q (.bl b) H) : rIsZ K a (.ref D) none [.ref a, .ty t] H Q := ⟨D, rfl, rfl, C, .ty t, .type t, b, rfl, fun u h => h, k, q⟩
def dgetK (x y : V) (H : Hp) (Q : VK) : Prop := ∃ a v, x = .ref a ∧ DGet H a y (some v) ∧ Q v H
theorem g_dget {td ty : TE} (h : td σ H fun x H1 => ty σ H1 fun y H2 => dgetK x y H2 Q) : tDGet td ty σ H Q := h
theorem g_dgetS {a : Addr} {kvs : List (Key × V)} {k : Str} (e : H a = some (.dK kvs)) (l : valV kvs (Sum.inr k) = some v) (q : Q v H) : dgetK (.ref a) (.str k) H Q := ⟨a, v, rfl, .inl ⟨kvs, Sum.inr k, .inl e, rfl, l.symm⟩, q⟩
theorem g_dgetI {a : Addr} {kvs : List (Key × V)} {k : Int} (e : H a = some (.dK kvs)) (l : valV kvs (Sum.inl k) = some v) (q : Q v H) : dgetK (.ref a) (.int k) H Q := ⟨a, v, rfl, .inl ⟨kvs, Sum.inl k, .inl e, rfl, l.symm⟩, q⟩
theorem g_slice {r : V → Option Int → Option Int → Hp → VK → Prop} {tl th : TO} (h : te σ H fun x H1 => tl σ H1 fun l H2 => th σ H2 fun u H3 => r x l u H3 Q) : tSl r te tl th σ H Q := h
theorem g_ifx (h : c σ H fun b H1 => ifK b (ta σ H1 Q) (tb σ H1 Q)) : tIf c ta tb σ H Q := h
def andVK (x : V) (tb : TE) (σ : St) (H : Hp) (Q : VK) : Prop := ∃ b, x = .bl b ∧ ifK b (tb σ H Q) (Q (.bl false) H)
def orVK (x : V) (tb : TE) (σ : St) (H : Hp) (Q : VK) : Prop := ∃ b, x = .bl b ∧ ifK b (Q (.bl true) H) (tb σ H Q)
theorem g_andV (h : ta σ H fun x H1 => andVK x tb σ H1 Q) : tAndV ta tb σ H Q := h
theorem g_orV (h : ta σ H fun x H1 => orVK x tb σ H1 Q) : tOrV ta tb σ H Q := h
theorem g_andVK {b : Bool} (h : ifK b (tb σ H Q) (Q (.bl false) H)) : andVK (.bl b) tb σ H Q := ⟨b, rfl, h⟩
theorem g_orVK {b : Bool} (h : ifK b (Q (.bl true) H) (tb σ H Q)) : orVK (.bl b) tb σ H Q := ⟨b, rfl, h⟩
def notVK (x : V) (H : Hp) (Q : VK) : Prop := ∃ b, x = .bl b ∧ Q (.bl (!b)) H
theorem g_notV (h : ta σ H fun x H1 => notVK x H1 Q) : tNotV ta σ H Q := h
theorem g_notVK {b : Bool} (h : Q (.bl (!b)) H) : notVK (.bl b) H Q := ⟨b, rfl, h⟩
/-! ### tests -/
variable {R : Bool → Hp → Prop}
theorem g_test (h : te σ H fun x H1 => blK x H1 R) : tTest te σ H R := h
theorem g_tB (h : te σ H fun x H1 => blK x H1 R) : tB te σ H R := h
theorem g_blK {b : Bool} (q : R b H) : blK (.bl b) H R := ⟨b, rfl, q⟩
theorem g_and (h : c σ H fun b H1 => ifK b (c' σ H1 R) (R false H1)) : tAnd c c' σ H R := h
theorem g_or (h : c σ H fun b H1 => ifK b (R true H1) (c' σ H1 R)) : tOr c c' σ H R := h
theorem g_not (h : c σ H fun b H1 => R (!b) H1) : tNot c σ H R := h
def chK (z : V) (tc : TE) (r' : R2) (y : V) (σ : St) (H3 : Hp) (Q : VK) : Prop := ∃ k, z = .bl k ∧ ifK k (tc σ H3 fun w' H4 => r' y w' H4 Q) (Q (.bl false) H3)
theorem g_chain {r r' : R2} (h : ta σ H fun x H1 => tb σ H1 fun y H2 => r x y H2 fun z H3 => chK z tc r' y σ H3 Q) : tChain r r' ta tb tc σ H Q := h
theorem g_chK {r' : R2} {b : Bool} (h : ifK b (tc σ H fun w' H4 => r' y w' H4 Q) (Q (.bl false) H)) : chK (.bl b) tc r' y σ H Q := ⟨b, rfl, h⟩
/-! ### values -/
theorem v_addI {a b : Int} (q : Q (.int (a + b)) H) : rAddI (.int a) (.int b) H Q := ⟨a, b, rfl, rfl, q⟩
theorem v_subI {a b : Int} (q : Q (.int (a - b)) H) : rSubI (.int a) (.int b) H Q := ⟨a, b, rfl, rfl, q⟩
theorem v_mulR {a b : Int} (h : -(2 ^ 64) < b ∧ b < 2 ^ 64) (q : Q (.int (a * b)) H) : rMulI (.int a) (.int b) H Q := ⟨a, b, rfl, rfl, .inr h, q⟩
theorem v_mulL {a b : Int} (h : -(2 ^ 64) < a ∧ a < 2 ^ 64) (q : Q (.int (a * b)) H) : rMulI (.int a) (.int b) H Q := ⟨a, b, rfl, rfl, .inl h, q⟩
theorem v_fdvI {a b : Int} (h : 0 < b ∧ b < 2 ^ 62) (q : Q (.int (a / b)) H) : rFdvI (.int a) (.int b) H Q := ⟨a, b, rfl, rfl, wide_div (b := 62) h.1 (by omega) (by decide) (by decide), q⟩
theorem v_modI {a b : Int} (h : 0 < b) (q : Q (.int (a % b)) H) : rModI (.int a) (.int b) H Q := ⟨a, b, rfl, rfl, h, q⟩
theorem v_powI {a b : Int} (h : 0 ≤ b ∧ b ≤ 1000000 ∧ a.natAbs < 2 ^ 64) (q : Q (.int (a ^ b.toNat)) H) : rPowI (.int a) (.int b) H Q := ⟨a, b, rfl, rfl, h, q⟩
theorem v_negI {a : Int} (q : Q (.int (-a)) H) : rNegI (.int a) H Q := ⟨a, rfl, q⟩
theorem v_ltI {a b : Int} (q : Q (.bl (decide (a < b))) H) : rLtI (.int a) (.int b) H Q := ⟨a, b, rfl, rfl, q⟩
theorem v_leI {a b : Int} (q : Q (.bl (decide (a ≤ b))) H) : rLeI (.int a) (.int b) H Q := ⟨a, b, rfl, rfl, q⟩
theorem v_gtI {a b : Int} (q : Q (.bl (decide (b < a))) H) : rGtI (.int a) (.int b) H Q := ⟨a, b, rfl, rfl, q⟩
theorem v_geI {a b : Int} (q : Q (.bl (decide (b ≤ a))) H) : rGeI (.int a) (.int b) H Q := ⟨a, b, rfl, rfl, q⟩
theorem v_eqI {a b : Int} (q : Q (.bl (decide (a = b))) H) : rEq (.int a) (.int b) H Q := ⟨rfl, by simpa using q⟩
theorem v_neI {a b : Int} (q : Q (.bl (!decide (a = b))) H) : rNe (.int a) (.int b) H Q := ⟨rfl, by simpa using q⟩
theorem v_eqB {a b : Bool} (q : Q (.bl (decide (a = b))) H) : rEq (.bl a) (.bl b) H Q := ⟨rfl, by simpa using q⟩
theorem v_neB {a b : Bool} (q : Q (.bl (!decide (a = b))) H) : rNe (.bl a) (.bl b) H Q := ⟨rfl, by simpa using q⟩
theorem v_eqS {a b : Str} (q : Q (.bl (decide (a = b))) H) : rEq (.str a) (.str b) H Q := ⟨rfl, by simpa using q⟩
theorem v_neS {a b : Str} (q : Q (.bl (!decide (a = b))) H) : rNe (.str a) (.str b) H Q := ⟨rfl, by simpa using q⟩
theorem v_eqNI {b : Int} (q : Q (.bl false) H) : rEq .non (.int b) H Q := ⟨rfl, by simpa using q⟩
theorem v_eqIN {b : Int} (q : Q (.bl false) H) : rEq (.int b) .non H Q := ⟨rfl, by simpa using q⟩
theorem v_isN (q : Q (.bl true) H) : rIsNo .non .non H Q := ⟨rfl, by simpa using q⟩
theorem v_isNI {b : Int} (q : Q (.bl false) H) : rIsNo (.int b) .non H Q := ⟨rfl, by simpa using q⟩
theorem v_isNB {b : Bool} (q : Q (.bl false) H) : rIsNo (.bl b) .non H Q := ⟨rfl, by simpa using q⟩
theorem v_isNS {b : Str} (q : Q (.bl false) H) : rIsNo (.str b) .non H Q := ⟨rfl, by simpa using q⟩
theorem v_isNR {b : Addr} (q : Q (.bl false) H) : rIsNo (.ref b) .non H Q := ⟨rfl, by simpa using q⟩
theorem v_noN (q : Q (.bl false) H) : rNotNo .non .non H Q := ⟨rfl, by simpa using q⟩
theorem v_noNI {b : Int} (q : Q (.bl true) H) : rNotNo (.int b) .non H Q := ⟨rfl, by simpa using q⟩
theorem v_noNB {b : Bool} (q : Q (.bl true) H) : rNotNo (.bl b) .non H Q := ⟨rfl, by simpa using q⟩
theorem v_noNS {b : Str} (q : Q (.bl true) H) : rNotNo (.str b) .non H Q := ⟨rfl, by simpa using q⟩
theorem v_noNR {b : Addr} (q : Q (.bl true) H) : rNotNo (.ref b) .non H Q := ⟨rfl, by simpa using q⟩
theorem v_isB {a b : Bool} (q : Q (.bl (decide (a = b))) H) : rIsB (.bl a) (.bl b) H Q := ⟨a, b, rfl, rfl, q⟩
theorem v_notB {a b : Bool} (q : Q (.bl (!decide (a = b))) H) : rNotB (.bl a) (.bl b) H Q := ⟨a, b, rfl, rfl, q⟩
theorem v_rAdd {a b : Int} (q : Q (.int (a + b)) H) : rAdd (.int a) (.int b) H Q := ⟨a, b, rfl, rfl, q⟩
theorem v_rSub {a b : Int} (q : Q (.int (a - b)) H) : rSub (.int a) (.int b) H Q := ⟨a, b, rfl, rfl, q⟩
theorem v_ixL {p : Addr} {xs : List V} {n : Int} (e : H p = some (.lst xs)) (l : atI xs n = some v) (q : Q v H) : rIxL K (.ref p) (.int n) H Q := ⟨p, xs, n, v, rfl, rfl, SqL.of e, l, q⟩
theorem v_ixT {p : Addr} {xs : List V} {n : Int} (e : H p = some (.tup xs)) (l : atI xs n = some v) (q : Q v H) : rIxT K (.ref p) (.int n) H Q := ⟨p, xs, n, v, rfl, rfl, Evl.st_of e, l, q⟩
theorem v_cat {l b : Addr} {xs zs : List V} (e1 : H l = some (.lst xs)) (e2 : H b = some (.lst zs)) (z : xs.length + zs.length ≤ 100000) (q : ∀ p, H p = none → Q (.ref p) (upd H p (.lst (xs ++ zs)))) : rCat (.ref l) (.ref b) H Q := ⟨l, b, xs, zs, rfl, rfl, e1, e2, Evl.sz_of z, q⟩
theorem v_rep {l : Addr} {w : V} {n : Int} (e : H l = some (.lst [w])) (z : 0 ≤ n ∧ n ≤ 100000) (q : ∀ p, H p = none → Q (.ref p) (upd H p (.lst (List.replicate n.toNat w)))) : rRep (.ref l) (.int n) H Q :=
  ⟨l, n, [w], rfl, rfl, e, by omega, by omega, Nat.le_trans (by show 1 * n.toNat ≤ 100000; omega) (by decide), fun p hp => by
    have h : (List.replicate n.toNat [w]).flatten = List.replicate n.toNat w := by
      generalize n.toNat = m
      induction m with
      | zero => rfl
      | succ m ih => rw [List.replicate_succ, List.replicate_succ, List.flatten_cons, ih]; rfl
    rw [h]
    exact q p hp⟩
theorem v_lenL {p : Addr} {xs : List V} (e : H p = some (.lst xs)) (q : Q (.int (xs.length : Int)) H) : rLenQ K [.ref p] H Q := ⟨p, xs, rfl, .inl (SqL.of e), q⟩
theorem v_lenT {p : Addr} {xs : List V} (e : H p = some (.tup xs)) (q : Q (.int (xs.length : Int)) H) : rLenQ K [.ref p] H Q := ⟨p, xs, rfl, .inr (Evl.st_of e), q⟩
theorem v_lenD {p : Addr} {kvs : List (Key × V)} (e : H p = some (.dK kvs)) (q : Q (.int (kvs.length : Int)) H) : rLenD [.ref p] H Q := ⟨p, kvs, rfl, e, q⟩
theorem v_listL {p : Addr} {xs : List V} (e : H p = some (.lst xs)) (q : ∀ l, H l = none → Q (.ref l) (upd H l (.lst xs))) : rListQ K [.ref p] H Q := ⟨p, xs, rfl, .inl (SqL.of e), q⟩
theorem v_listT {p : Addr} {xs : List V} (e : H p = some (.tup xs)) (q : ∀ l, H l = none → Q (.ref l) (upd H l (.lst xs))) : rListQ K [.ref p] H Q := ⟨p, xs, rfl, .inr (Evl.st_of e), q⟩
theorem v_tupL {p : Addr} {xs : List V} (e : H p = some (.lst xs)) (q : ∀ l, H l = none → Q (.ref l) (upd H l (.tup xs))) : rTupQ K [.ref p] H Q := ⟨p, xs, rfl, .inl ⟨SqL.of e, q⟩⟩
theorem v_int {a : Int} (q : Q (.int a) H) : rInt1 [.int a] H Q := .inl ⟨a, rfl, q⟩
theorem v_intB {a : Bool} (q : Q (.int (if a then 1 else 0)) H) : rInt1 [.bl a] H Q := .inr ⟨a, rfl, q⟩
theorem v_minN {a b : Nat} (q : Q (.int ((min a b : Nat) : Int)) H) : rMin2 [.int (a : Int), .int (b : Int)] H Q := ⟨a, b, rfl, by
    have e : (if (b : Int) < (a : Int) then (b : Int) else (a : Int)) = ((min a b : Nat) : Int) := by
      split <;> omega
    rw [e]; exact q⟩
theorem v_min {a b : Int} (q : Q (.int (if b < a then b else a)) H) : rMin2 [.int a, .int b] H Q := ⟨a, b, rfl, q⟩
theorem v_max {a b : Int} (q : Q (.int (if b > a then b else a)) H) : rMax2 [.int a, .int b] H Q := ⟨a, b, rfl, q⟩
theorem v_abs {a : Int} (q : Q (.int (if a < 0 then -a else a)) H) : rAbs1 [.int a] H Q := ⟨a, rfl, q⟩
/-! ### isinstance of a built-in type -/
theorem v_isiI {a : Int} {T : String} {b : Bool} (k : kitB "int" T = some b) (q : Q (.bl b) H) : rIsi K [.int a, .ty T] H Q := ⟨_, _, _, _, b, rfl, .ty T, .base (.int a), kit_ty k, q⟩
theorem v_isiB {a : Bool} {T : String} {b : Bool} (k : kitB "bool" T = some b) (q : Q (.bl b) H) : rIsi K [.bl a, .ty T] H Q := ⟨_, _, _, _, b, rfl, .ty T, .base (.bl a), kit_ty k, q⟩
theorem v_isiS {a : Str} {T : String} {b : Bool} (k : kitB "str" T = some b) (q : Q (.bl b) H) : rIsi K [.str a, .ty T] H Q := ⟨_, _, _, _, b, rfl, .ty T, .base (.str a), kit_ty k, q⟩
theorem v_isiN {T : String} {b : Bool} (k : kitB "NoneType" T = some b) (q : Q (.bl b) H) : rIsi K [.non, .ty T] H Q := ⟨_, _, _, _, b, rfl, .ty T, .base .non, kit_ty k, q⟩
theorem v_isiL {a : Addr} {xs : List V} {T : String} {b : Bool} (e : H a = some (.lst xs)) (k : kitB "list" T = some b) (q : Q (.bl b) H) : rIsi K [.ref a, .ty T] H Q := ⟨_, _, _, _, b, rfl, .ty T, .base (.lst e), kit_ty k, q⟩
theorem v_isiT {a : Addr} {xs : List V} {T : String} {b : Bool} (e : H a = some (.tup xs)) (k : kitB "tuple" T = some b) (q : Q (.bl b) H) : rIsi K [.ref a, .ty T] H Q := ⟨_, _, _, _, b, rfl, .ty T, .base (.tup e), kit_ty k, q⟩
theorem i_II {a : Int} (q : Q (.bl true) H) : rIsi K [.int a, .ty "int"] H Q := v_isiI (by decide +kernel) q
theorem i_IB {a : Int} (q : Q (.bl false) H) : rIsi K [.int a, .ty "bool"] H Q := v_isiI (by decide +kernel) q
theorem i_IS {a : Int} (q : Q (.bl false) H) : rIsi K [.int a, .ty "str"] H Q := v_isiI (by decide +kernel) q
theorem i_IL {a : Int} (q : Q (.bl false) H) : rIsi K [.int a, .ty "list"] H Q := v_isiI (by decide +kernel) q
theorem i_IT {a : Int} (q : Q (.bl false) H) : rIsi K [.int a, .ty "tuple"] H Q := v_isiI (by decide +kernel) q
theorem i_BI {a : Bool} (q : Q (.bl true) H) : rIsi K [.bl a, .ty "int"] H Q := v_isiB (by decide +kernel) q
theorem i_BB {a : Bool} (q : Q (.bl true) H) : rIsi K [.bl a, .ty "bool"] H Q := v_isiB (by decide +kernel) q
theorem i_BS {a : Bool} (q : Q (.bl false) H) : rIsi K [.bl a, .ty "str"] H Q := v_isiB (by decide +kernel) q
theorem i_BL {a : Bool} (q : Q (.bl false) H) : rIsi K [.bl a, .ty "list"] H Q := v_isiB (by decide +kernel) q
theorem i_BT {a : Bool} (q : Q (.bl false) H) : rIsi K [.bl a, .ty "tuple"] H Q := v_isiB (by decide +kernel) q
theorem i_SI {a : Str} (q : Q (.bl false) H) : rIsi K [.str a, .ty "int"] H Q := v_isiS (by decide +kernel) q
theorem i_SB {a : Str} (q : Q (.bl false) H) : rIsi K [.str a, .ty "bool"] H Q := v_isiS (by decide +kernel) q
theorem i_SS {a : Str} (q : Q (.bl true) H) : rIsi K [.str a, .ty "str"] H Q := v_isiS (by decide +kernel) q
theorem i_SL {a : Str} (q : Q (.bl false) H) : rIsi K [.str a, .ty "list"] H Q := v_isiS (by decide +kernel) q
theorem i_ST {a : Str} (q : Q (.bl false) H) : rIsi K [.str a, .ty "tuple"] H Q := v_isiS (by decide +kernel) q
theorem i_NI  (q : Q (.bl false) H) : rIsi K [.non, .ty "int"] H Q := v_isiN (by decide +kernel) q
theorem i_NB  (q : Q (.bl false) H) : rIsi K [.non, .ty "bool"] H Q := v_isiN (by decide +kernel) q
theorem i_NS  (q : Q (.bl false) H) : rIsi K [.non, .ty "str"] H Q := v_isiN (by decide +kernel) q
theorem i_NL  (q : Q (.bl false) H) : rIsi K [.non, .ty "list"] H Q := v_isiN (by decide +kernel) q
theorem i_NT  (q : Q (.bl false) H) : rIsi K [.non, .ty "tuple"] H Q := v_isiN (by decide +kernel) q
theorem i_LI {a : Addr} {xs : List V} (e : H a = some (.lst xs)) (q : Q (.bl false) H) : rIsi K [.ref a, .ty "int"] H Q := v_isiL e (by decide +kernel) q
theorem i_LB {a : Addr} {xs : List V} (e : H a = some (.lst xs)) (q : Q (.bl false) H) : rIsi K [.ref a, .ty "bool"] H Q := v_isiL e (by decide +kernel) q
theorem i_LS {a : Addr} {xs : List V} (e : H a = some (.lst xs)) (q : Q (.bl false) H) : rIsi K [.ref a, .ty "str"] H Q := v_isiL e (by decide +kernel) q
theorem i_LL {a : Addr} {xs : List V} (e : H a = some (.lst xs)) (q : Q (.bl true) H) : rIsi K [.ref a, .ty "list"] H Q := v_isiL e (by decide +kernel) q
theorem i_LT {a : Addr} {xs : List V} (e : H a = some (.lst xs)) (q : Q (.bl false) H) : rIsi K [.ref a, .ty "tuple"] H Q := v_isiL e (by decide +kernel) q
theorem i_TI {a : Addr} {xs : List V} (e : H a = some (.tup xs)) (q : Q (.bl false) H) : rIsi K [.ref a, .ty "int"] H Q := v_isiT e (by decide +kernel) q
theorem i_TB {a : Addr} {xs : List V} (e : H a = some (.tup xs)) (q : Q (.bl false) H) : rIsi K [.ref a, .ty "bool"] H Q := v_isiT e (by decide +kernel) q
theorem i_TS {a : Addr} {xs : List V} (e : H a = some (.tup xs)) (q : Q (.bl false) H) : rIsi K [.ref a, .ty "str"] H Q := v_isiT e (by decide +kernel) q
theorem i_TL {a : Addr} {xs : List V} (e : H a = some (.tup xs)) (q : Q (.bl false) H) : rIsi K [.ref a, .ty "list"] H Q := v_isiT e (by decide +kernel) q
theorem i_TT {a : Addr} {xs : List V} (e : H a = some (.tup xs)) (q : Q (.bl true) H) : rIsi K [.ref a, .ty "tuple"] H Q := v_isiT e (by decide +kernel) q
end

/-! ### equality of data -/
def toD : V → PyData
  | .int i => .int i
  | .bl b => .bool b
  | .str s => .str s
  | _ => .none
def Flat : V → Prop
  | .int _ => True
  | .bl _ => True
  | .non => True
  | .str s => PyData.canLay0 (.str s) = true
  | _ => False
theorem flat_dp {K : PySem.W.Frag} {H : Hp} : ∀ {v : V}, Flat v → Dp K H v (toD v)
  | .int i, _ => .int i
  | .bl b, _ => .bl b
  | .non, _ => .non
  | .str s, _ => .str s
theorem flat_dps {K : PySem.W.Frag} {H : Hp} : ∀ {xs : List V}, (∀ x ∈ xs, Flat x) → DpAll K H xs (xs.map toD)
  | [], _ => .nil
  | _ :: _, h => .cons (flat_dp (h _ List.mem_cons_self)) (flat_dps fun y hy => h y (List.mem_cons_of_mem _ hy))
theorem flat_can : ∀ {v : V}, Flat v → (toD v).canLay0 = true ∧ (toD v).depth = 0
  | .int i, _ => ⟨by simp only [toD, PyData.canLay0], by simp only [toD, PyData.depth]⟩
  | .bl b, _ => ⟨by simp only [toD, PyData.canLay0], by simp only [toD, PyData.depth]⟩
  | .non, _ => ⟨by simp only [toD, PyData.canLay0], by simp only [toD, PyData.depth]⟩
  | .str s, h => ⟨h, by simp only [toD, PyData.depth]⟩
theorem flat_cans : ∀ {xs : List V}, (∀ x ∈ xs, Flat x) → PyData.canLayAll0 (xs.map toD) = true ∧ PyData.depthAll (xs.map toD) = 0
  | [], _ => ⟨by simp only [List.map_nil, PyData.canLayAll0], by simp only [List.map_nil, PyData.depthAll]⟩
  | x :: xs, h => by
    obtain ⟨h1, h2⟩ := flat_can (h _ List.mem_cons_self)
    obtain ⟨h3, h4⟩ := flat_cans (xs := xs) fun y hy => h y (List.mem_cons_of_mem _ hy)
    exact ⟨by simp only [List.map_cons, PyData.canLayAll0, h1, h3, Bool.and_self], by simp only [List.map_cons, PyData.depthAll, h2, h4, Nat.max_self]⟩
theorem flat_shaped {xs : List V} (h : ∀ x ∈ xs, Flat x) : SeqAt.shaped (.list (xs.map toD)) = true ∧ SeqAt.shaped (.tuple (xs.map toD)) = true := by
  obtain ⟨h3, h4⟩ := flat_cans h
  constructor <;> simp only [SeqAt.shaped, PyData.canLay0, PyData.depth, h3, h4] <;> decide
section
variable {K : PySem.W.Frag} {H : Hp} {Q : VK} {v w x y : V} {d e : PyData}
theorem v_eqD (hx : Dp K H x d) (hy : Dp K H y d) (s : SeqAt.shaped d = true) (q : Q (.bl true) H) : rEqD K x y H Q := ⟨d, d, hx, hy, s, s, by rw [SeqAt.eqv_refl d (SeqAt.canLay_of_shaped s)]; exact q⟩
theorem v_neD (hx : Dp K H x d) (hy : Dp K H y d) (s : SeqAt.shaped d = true) (q : Q (.bl false) H) : rNeD K x y H Q := ⟨d, d, hx, hy, s, s, by rw [SeqAt.eqv_refl d (SeqAt.canLay_of_shaped s)]; exact q⟩
theorem v_eqDL {a b : Addr} {xs : List V} (ea : H a = some (.lst xs)) (eb : H b = some (.lst xs)) (f : ∀ x ∈ xs, Flat x) (q : Q (.bl true) H) : rEqD K (.ref a) (.ref b) H Q := v_eqD (.lst (SqL.of ea) (flat_dps f)) (.lst (SqL.of eb) (flat_dps f)) (flat_shaped f).1 q
theorem v_neDL {a b : Addr} {xs : List V} (ea : H a = some (.lst xs)) (eb : H b = some (.lst xs)) (f : ∀ x ∈ xs, Flat x) (q : Q (.bl false) H) : rNeD K (.ref a) (.ref b) H Q := v_neD (.lst (SqL.of ea) (flat_dps f)) (.lst (SqL.of eb) (flat_dps f)) (flat_shaped f).1 q
theorem v_eqDf (f : Flat x) (q : Q (.bl true) H) : rEqD K x x H Q := v_eqD (flat_dp f) (flat_dp f) (by
  obtain ⟨h1, h2⟩ := flat_can f
  simp only [SeqAt.shaped, h1, h2]; decide) q
theorem flat_ints {d : List Int} : ∀ x ∈ d.map V.int, Flat x := fun x hx => by
  obtain ⟨i, _, rfl⟩ := List.mem_map.mp hx
  exact True.intro
theorem flat_bls {d : List Bool} : ∀ x ∈ d.map V.bl, Flat x := fun x hx => by
  obtain ⟨i, _, rfl⟩ := List.mem_map.mp hx
  exact True.intro
theorem v_ixQL {p : Addr} {xs : List V} {n : Int} (e : H p = some (.lst xs)) (l : atI xs n = some v) (q : Q v H) : rIx K (.ref p) (.int n) H Q := .inl (v_ixL e l q)
theorem v_ixQT {p : Addr} {xs : List V} {n : Int} (e : H p = some (.tup xs)) (l : atI xs n = some v) (q : Q v H) : rIx K (.ref p) (.int n) H Q := .inr (.inl (v_ixT e l q))
end
/-! ### heaps -/
theorem same_at {H H' : Hp} {b : Addr} {o : HO} (s : Same H H') (h : H b = some o) : H' b = some o := s b o h
theorem same_new {H : Hp} {p : Addr} {o : HO} (h : H p = none) : Same H (upd H p o) := fun b u e => by
  rw [upd_ne (ne_of_none e h)]
  exact e
theorem upd_none {H : Hp} {a b : Addr} {o : HO} (h : upd H a o b = none) : H b = none ∧ b ≠ a := by
  by_cases e : b = a
  · subst e; rw [upd_same] at h; cases h
  · rw [upd_ne e] at h; exact ⟨h, e⟩
theorem free_upd {H : Hp} {a b : Addr} {o : HO} (h : upd H a o b = none) : H b = none := (upd_none h).1
theorem upd_self {H : Hp} {a : Addr} {o : HO} (h : H a = some o) : upd H a o = H := funext fun b => by
  by_cases e : b = a
  · subst e; rw [upd_same, h]
  · rw [upd_ne e]
/-- all but the objects of l is as it was -/
def Fr (H H' : Hp) (l : List Addr) : Prop := ∀ b o, H b = some o → b ∉ l → H' b = some o
theorem Fr.of_same {H H' : Hp} {l : List Addr} (s : Same H H') : Fr H H' l := fun b o e _ => s b o e
theorem Fr.refl {H : Hp} {l : List Addr} : Fr H H l := fun _ _ e _ => e
theorem Fr.trans {H H1 H2 : Hp} {l : List Addr} (a : Fr H H1 l) (b : Fr H1 H2 l) : Fr H H2 l := fun x o e n => b x o (a x o e n) n
theorem Fr.mono {H H1 : Hp} {l m : List Addr} (a : Fr H H1 l) (h : ∀ x ∈ l, x ∈ m) : Fr H H1 m := fun x o e n => a x o e fun q => n (h x q)
theorem Fr.at {H H' : Hp} {l : List Addr} {b : Addr} {o : HO} (f : Fr H H' l) (h : H b = some o) (n : b ∉ l) : H' b = some o := f b o h n
theorem Fr.updm {H H' : Hp} {a : Addr} {o : HO} {l : List Addr} (h : Fr H H' l) (m : a ∈ l) : Fr H (upd H' a o) l := fun b u e n => by
  rw [upd_ne (fun q => n (by rw [q]; exact m))]; exact h b u e n
theorem Fr.updf {H H' : Hp} {a : Addr} {o : HO} {l : List Addr} (h : Fr H H' l) (m : H a = none) : Fr H (upd H' a o) l := fun b u e n => by
  rw [upd_ne (ne_of_none e m)]; exact h b u e n
theorem Same.updf {H H' : Hp} {a : Addr} {o : HO} (h : Same H H') (m : H a = none) : Same H (upd H' a o) := fun b u e => by
  rw [upd_ne (ne_of_none e m)]; exact h b u e
theorem free_at {H H' : Hp} {b : Addr} (s : Same H H') (h : H' b = none) : H b = none := s.free h
/-! ### loops -/
def forK (J : It) (g : TG) (tb : TS) (D : Ends) (σ : St) (H1 : Hp) : Prop := ∃ W : Nat → Nat → St → Hp → Prop, (∃ m, W 0 m σ H1) ∧ ∀ i m σ H, W i m σ H →
  (J.stop i H ∧ D.nx σ H) ∨ (J.go i H ∧ ∃ N : St → Hp → Prop, (∀ σ' H', N σ' H' → ∃ m', m' < m ∧ W (i + 1) m' σ' H') ∧ ∀ x H', J.yld i H x H' → g x σ H' fun σ2 H2 => tb { D with nx := N, ct := N, bk := D.nx } σ2 H2)
def itLK (K : PySem.W.Frag) (x : V) (H1 : Hp) (R : It → Hp → Prop) : Prop := ∃ a, x = .ref a ∧ (∃ xs, SqL K H1 a xs) ∧ R (Itl K a) H1
def itTK (K : PySem.W.Frag) (x : V) (H1 : Hp) (R : It → Hp → Prop) : Prop := ∃ a, x = .ref a ∧ (∃ xs, SqT K H1 a xs) ∧ R (Itt K a) H1
def itRK (vs : List V) (H1 : Hp) (R : It → Hp → Prop) : Prop := ∃ j : Int, vs = [.int j] ∧ -(2 ^ 62) ≤ j ∧ j < 2 ^ 62 ∧ R (Itr 0 j.toNat) H1
def itR2K (vs : List V) (H1 : Hp) (R : It → Hp → Prop) : Prop := ∃ i j : Int, vs = [.int i, .int j] ∧ (-(2 ^ 62) ≤ i ∧ i < 2 ^ 62 ∧ -(2 ^ 62) ≤ j ∧ j < 2 ^ 62) ∧ R (Itr i (j - i).toNat) H1
def itZK (K : PySem.W.Frag) (vs : List V) (H1 : Hp) (R : It → Hp → Prop) : Prop := ∃ a b xs ys, vs = [.ref a, .ref b] ∧ SqL K H1 a xs ∧ SqL K H1 b ys ∧ R (Itz K a b) H1
def itEK (K : PySem.W.Frag) (vs : List V) (H1 : Hp) (R : It → Hp → Prop) : Prop := ∃ a xs, vs = [.ref a] ∧ SqL K H1 a xs ∧ R (Ite K a) H1
def itSK (v : V) (H1 : Hp) (R : It → Hp → Prop) : Prop := ∃ x, v = .str x ∧ R (Its x) H1
def lcK (J : It) (g : TG) (tt : TT) (te : TE) (vs : List Nat) (σ : St) (H1 : Hp) (Q : VK) : Prop := ∀ D, H1 D = none → ∃ W : Nat → Nat → Hp → Prop, (∃ m, W 0 m (upd H1 D (.lst []))) ∧ ∀ i m H, W i m H →
  (J.stop i H ∧ Q (.ref D) H) ∨ (J.go i H ∧ ∃ Nx : Hp → Prop, (∀ H', Nx H' → ∃ m', m' < m ∧ W (i + 1) m' H') ∧ ∀ x H', J.yld i H x H' → g x (wipe σ vs) H' fun σ2 H2 => wipe σ2 vs = wipe σ vs ∧ tt σ2 H2 fun b H3 =>
    if b = true then te σ2 H3 fun y H4 => ∃ acc, H4 D = some (.lst acc) ∧ acc.length < sizeLine ∧ Nx (upd H4 D (.lst (acc ++ [y]))) else Nx H3)
section
variable {σ : St} {H : Hp} {D : Ends} {tb : TS} {te tl : TE} {Q : VK} {g : TG} {v : V} {ta : TA} {K : PySem.W.Frag} {wi : TI} {R : It → Hp → Prop} {tt : TT} {vs : List Nat}
theorem g_for (h : wi σ H fun J H1 => forK J g tb D σ H1) : tFor wi g tb D σ H := h
theorem g_lc (h : wi σ H fun J H1 => lcK J g tt te vs σ H1 Q) : tLc wi g tt te vs σ H Q := h
theorem g_iL (h : tl σ H fun x H1 => itLK K x H1 R) : iList K tl σ H R := h
theorem g_iT (h : tl σ H fun x H1 => itTK K x H1 R) : iTup K tl σ H R := h
theorem g_iR (h : ta σ H fun x H1 => itRK x H1 R) : iRng1 ta σ H R := h
theorem g_iR2 (h : ta σ H fun x H1 => itR2K x H1 R) : iRng2 ta σ H R := h
theorem g_iZ (h : ta σ H fun x H1 => itZK K x H1 R) : iZip K ta σ H R := h
theorem g_iE (h : ta σ H fun x H1 => itEK K x H1 R) : iEnum K ta σ H R := h
theorem g_iS (h : tl σ H fun x H1 => itSK x H1 R) : iStr tl σ H R := h
theorem g_iLK {a : Addr} {xs : List V} (e : H a = some (.lst xs)) (q : R (Itl K a) H) : itLK K (.ref a) H R := ⟨a, rfl, ⟨xs, SqL.of e⟩, q⟩
theorem g_iTK {a : Addr} {xs : List V} (e : H a = some (.tup xs)) (q : R (Itt K a) H) : itTK K (.ref a) H R := ⟨a, rfl, ⟨xs, Evl.st_of e⟩, q⟩
theorem g_iRK {n : Int} (b : -(2 ^ 62) ≤ n ∧ n < 2 ^ 62) (q : R (Itr 0 n.toNat) H) : itRK [.int n] H R := ⟨n, rfl, b.1, b.2, q⟩
theorem g_iR2K {m n : Int} (b : -(2 ^ 62) ≤ m ∧ m < 2 ^ 62 ∧ -(2 ^ 62) ≤ n ∧ n < 2 ^ 62) (q : R (Itr m (n - m).toNat) H) : itR2K [.int m, .int n] H R := ⟨m, n, rfl, b, q⟩
theorem g_iZK {a b : Addr} {xs ys : List V} (e1 : H a = some (.lst xs)) (e2 : H b = some (.lst ys)) (q : R (Itz K a b) H) : itZK K [.ref a, .ref b] H R := ⟨a, b, xs, ys, rfl, SqL.of e1, SqL.of e2, q⟩
theorem g_iEK {a : Addr} {xs : List V} (e1 : H a = some (.lst xs)) (q : R (Ite K a) H) : itEK K [.ref a] H R := ⟨a, xs, rfl, SqL.of e1, q⟩
theorem g_iSK {x : Str} (q : R (Its x) H) : itSK (.str x) H R := ⟨x, rfl, q⟩
theorem for_L {a : Addr} (xs : List V) (Pv : Nat → St → Hp → Prop) (h0 : Pv 0 σ H) (hl : ∀ i σ H, i ≤ xs.length → Pv i σ H → SqL K H a xs)
    (hs : ∀ i x σ H, xs[i]? = some x → Pv i σ H → g x σ H fun σ2 H2 => tb { D with nx := Pv (i + 1), ct := Pv (i + 1), bk := D.nx } σ2 H2) (hd : ∀ σ H, Pv xs.length σ H → D.nx σ H) : forK (Itl K a) g tb D σ H := for_list (K := K) Pv h0 hl hs hd
theorem for_T {a : Addr} (xs : List V) (Pv : Nat → St → Hp → Prop) (h0 : Pv 0 σ H) (hl : ∀ i σ H, i ≤ xs.length → Pv i σ H → SqT K H a xs)
    (hs : ∀ i x σ H, xs[i]? = some x → Pv i σ H → g x σ H fun σ2 H2 => tb { D with nx := Pv (i + 1), ct := Pv (i + 1), bk := D.nx } σ2 H2) (hd : ∀ σ H, Pv xs.length σ H → D.nx σ H) : forK (Itt K a) g tb D σ H := for_tup (K := K) Pv h0 hl hs hd
theorem for_R {lo : Int} {n : Nat} (Pv : Nat → St → Hp → Prop) (h0 : Pv 0 σ H) (hs : ∀ (i : Nat) σ H, i < n → Pv i σ H → g (.int (lo + i)) σ H fun σ2 H2 => tb { D with nx := Pv (i + 1), ct := Pv (i + 1), bk := D.nx } σ2 H2) (hd : ∀ σ H, Pv n σ H → D.nx σ H) : forK (Itr lo n) g tb D σ H := for_range Pv h0 hs hd
theorem for_R0 {n : Nat} (Pv : Nat → St → Hp → Prop) (h0 : Pv 0 σ H) (hs : ∀ (i : Nat) σ H, i < n → Pv i σ H → g (.int (i : Int)) σ H fun σ2 H2 => tb { D with nx := Pv (i + 1), ct := Pv (i + 1), bk := D.nx } σ2 H2) (hd : ∀ σ H, Pv n σ H → D.nx σ H) : forK (Itr 0 n) g tb D σ H :=
  for_range Pv h0 (fun i σ H hi p => by rw [Int.zero_add]; exact hs i σ H hi p) hd
theorem for_S {x : Str} (Pv : Nat → St → Hp → Prop) (h0 : Pv 0 σ H) (hs : ∀ (i : Nat) (c : Nat) σ H, x.cps[i]? = some c → Pv i σ H → g (.str ⟨#[c]⟩) σ H fun σ2 H2 => tb { D with nx := Pv (i + 1), ct := Pv (i + 1), bk := D.nx } σ2 H2) (hd : ∀ σ H, Pv x.cps.size σ H → D.nx σ H) : forK (Its x) g tb D σ H := by
  refine ⟨fun i m σ H => m = x.cps.size - i ∧ i ≤ x.cps.size ∧ Pv i σ H, ⟨x.cps.size, by simp, Nat.zero_le _, h0⟩, ?_⟩
  rintro i m σ H ⟨rfl, hi, p⟩
  by_cases hlt : i < x.cps.size
  · refine .inr ⟨hlt, Pv (i + 1), fun σ' H' p' => ⟨x.cps.size - (i + 1), by omega, rfl, hlt, p'⟩, fun v H' y => ?_⟩
    obtain ⟨e, c, hc, ev⟩ := y
    subst e ev
    exact hs i c σ H' hc p
  · have e : i = x.cps.size := by omega
    subst e
    exact .inl ⟨Nat.le_refl _, hd σ H p⟩
theorem for_Z {a b : Addr} (xs ys : List V) (Pv : Nat → St → Hp → Prop) (h0 : Pv 0 σ H) (hq : ∀ i σ H, Pv i σ H → SqL K H a xs ∧ SqL K H b ys)
    (hs : ∀ (i : Nat) (x y : V) (T : Addr) (σ : St) (H : Hp), xs[i]? = some x → ys[i]? = some y → Pv i σ H → H T = none → g (.ref T) σ (upd H T (.tup [x, y])) fun σ2 H2 => tb { D with nx := Pv (i + 1), ct := Pv (i + 1), bk := D.nx } σ2 H2)
    (hd : ∀ i σ H, (i = xs.length ∧ i ≤ ys.length ∨ i = ys.length ∧ i ≤ xs.length) → Pv i σ H → D.nx σ H) : forK (Itz K a b) g tb D σ H := by
  refine ⟨fun i m σ H => m = xs.length - i ∧ i ≤ xs.length ∧ i ≤ ys.length ∧ Pv i σ H, ⟨xs.length, rfl, Nat.zero_le _, Nat.zero_le _, h0⟩, ?_⟩
  rintro i m σ H ⟨rfl, hi, hj, p⟩
  obtain ⟨qx, qy⟩ := hq i σ H p
  by_cases hlt : i < xs.length ∧ i < ys.length
  · have hx : xs[i]? = some xs[i] := List.getElem?_eq_getElem hlt.1
    have hy : ys[i]? = some ys[i] := List.getElem?_eq_getElem hlt.2
    refine .inr ⟨⟨xs, ys, _, _, qx, qy, hx, hy⟩, Pv (i + 1), fun σ' H' p' => ⟨xs.length - (i + 1), by omega, rfl, hlt.1, hlt.2, p'⟩, fun v H' y => ?_⟩
    obtain ⟨T, x', y', rfl, hT, rfl, f1, f2⟩ := y
    exact hs i x' y' T σ H (f1 xs qx) (f2 ys qy) p hT
  · exact .inl ⟨⟨xs, ys, qx, qy, by omega⟩, hd i σ H (by omega) p⟩
theorem lc_R {n : Nat} (Pv : Addr → Nat → Hp → Prop) (h0 : ∀ D, H D = none → Pv D 0 (upd H D (.lst [])))
    (hs : ∀ D (i : Nat) H, i < n → Pv D i H → g (.int (i : Int)) (wipe σ vs) H fun σ2 H2 => wipe σ2 vs = wipe σ vs ∧ tt σ2 H2 fun b H3 =>
      if b = true then te σ2 H3 fun y H4 => ∃ acc, H4 D = some (.lst acc) ∧ acc.length < sizeLine ∧ Pv D (i + 1) (upd H4 D (.lst (acc ++ [y]))) else Pv D (i + 1) H3) (hd : ∀ D H, Pv D n H → Q (.ref D) H) : lcK (Itr 0 n) g tt te vs σ H Q :=
  fun D hD => lc_range (Pv D) (h0 D hD) (fun i H hi p => by rw [Int.zero_add]; exact hs D i H hi p) (hd D)
theorem lc_L {a : Addr} (xs : List V) (Pv : Addr → Nat → Hp → Prop) (h0 : ∀ D, H D = none → Pv D 0 (upd H D (.lst []))) (hl : ∀ D i H, i ≤ xs.length → Pv D i H → SqL K H a xs)
    (hs : ∀ D i x H, xs[i]? = some x → Pv D i H → g x (wipe σ vs) H fun σ2 H2 => wipe σ2 vs = wipe σ vs ∧ tt σ2 H2 fun b H3 =>
      if b = true then te σ2 H3 fun y H4 => ∃ acc, H4 D = some (.lst acc) ∧ acc.length < sizeLine ∧ Pv D (i + 1) (upd H4 D (.lst (acc ++ [y]))) else Pv D (i + 1) H3) (hd : ∀ D H, Pv D xs.length H → Q (.ref D) H) : lcK (Itl K a) g tt te vs σ H Q :=
  fun D hD => lc_list (xs := xs) (Pv D) (h0 D hD) (hl D) (hs D) (hd D)
theorem g_yesT {R : Bool → Hp → Prop} (h : R true H) : tYes σ H R := h
/-- a comprehension whose elements only make things: what holds of each -/
def lcEnd (H : Hp) (n : Nat) (Rel : Nat → V → Hp → Prop) (Q : VK) : Prop := ∀ D ys H', H D = none → H' D = some (.lst ys) → Same H H' → ys.length = n → (∀ i y, ys[i]? = some y → Rel i y H') → Q (.ref D) H'
def lcPv (H : Hp) (Rel : Nat → V → Hp → Prop) (D : Addr) (i : Nat) (H' : Hp) : Prop := Same H H' ∧ H D = none ∧ ∃ ys, H' D = some (.lst ys) ∧ ys.length = i ∧ ∀ j y, ys[j]? = some y → Rel j y H'
theorem lc_mapR {n j : Nat} (Rel : Nat → V → Hp → Prop) (mono : ∀ i y H1 H2 D acc H0, H D = none → H1 D = some (.lst acc) → (∀ k z, acc[k]? = some z → Rel k z H0) → Fr H1 H2 [D] → Rel i y H1 → Rel i y H2) (hz : n ≤ 100000)
    (hw : ∀ i : Nat, wipe ((wipe σ vs).set j (some (.int (i : Int)))) vs = wipe σ vs)
    (hs : ∀ (i : Nat) H', i < n → Same H H' → ∀ R : VK, (∀ y H'', Same H' H'' → Rel i y H'' → R y H'') → te ((wipe σ vs).set j (some (.int (i : Int)))) H' R)
    (hd : lcEnd H n Rel Q) : lcK (Itr 0 n) (gName j) tYes te vs σ H Q := by
  refine lc_R (lcPv H Rel) (fun D hD => ⟨fun b u e => (by rw [upd_ne (ne_of_none e hD)]; exact e), hD, [], upd_same, rfl, fun j y e => by simp at e⟩) (fun D i H' hi p => ⟨hw i, ?_⟩) fun D H' p => ?_
  · obtain ⟨s, hD, ys, h1, h2, h3⟩ := p
    refine g_yesT ?_
    rw [if_pos rfl]
    refine (hs i H' hi s _ fun y H4 s4 r => ⟨ys, s4 D _ h1, Nat.lt_of_le_of_lt (show ys.length ≤ 100000 by omega) (by decide), ?_⟩)
    have f : Fr H4 (upd H4 D (.lst (ys ++ [y]))) [D] := fun b o e n => by
      rw [upd_ne (by simpa using n)]; exact e
    refine ⟨fun b o e => ?_, hD, _, upd_same, by rw [List.length_append, h2]; rfl, fun k z e => ?_⟩
    · rw [upd_ne (ne_of_none e hD)]
      exact s4 b o (s b o e)
    · by_cases hk : k < ys.length
      · rw [List.getElem?_append_left hk] at e
        exact mono k z H4 _ D ys H' hD (s4 D _ h1) h3 f (mono k z H' H4 D ys H' hD h1 h3 (fun b o e _ => s4 b o e) (h3 k z e))
      · rw [List.getElem?_append_right (by omega)] at e
        have hk0 : k - ys.length = 0 := by
          cases q : k - ys.length with
          | zero => rfl
          | succ m => rw [q] at e; cases e
        rw [hk0] at e
        cases e
        have e2 : k = i := by omega
        subst e2
        exact mono k y H4 _ D ys H' hD (s4 D _ h1) h3 f r
  · obtain ⟨s, hD, ys, h1, h2, h3⟩ := p
    exact hd D ys H' hD h1 s h2 h3
theorem lc_mapL {a : Addr} {j : Nat} (xs : List V) (hx : SqL K H a xs) (Rel : Nat → V → Hp → Prop) (mono : ∀ i y H1 H2 D acc H0, H D = none → H1 D = some (.lst acc) → (∀ k z, acc[k]? = some z → Rel k z H0) → Fr H1 H2 [D] → Rel i y H1 → Rel i y H2) (hz : xs.length ≤ 100000)
    (hw : ∀ x : V, wipe ((wipe σ vs).set j (some x)) vs = wipe σ vs)
    (hs : ∀ (i : Nat) x H', xs[i]? = some x → Same H H' → ∀ R : VK, (∀ y H'', Same H' H'' → Rel i y H'' → R y H'') → te ((wipe σ vs).set j (some x)) H' R)
    (hd : lcEnd H xs.length Rel Q) : lcK (Itl K a) (gName j) tYes te vs σ H Q := by
  refine lc_L xs (lcPv H Rel) (fun D hD => ⟨fun b u e => (by rw [upd_ne (ne_of_none e hD)]; exact e), hD, [], upd_same, rfl, fun j y e => by simp at e⟩) (fun D i H' hi p => p.1.seq hx) (fun D i x H' hi p => ⟨hw x, ?_⟩) fun D H' p => ?_
  · obtain ⟨s, hD, ys, h1, h2, h3⟩ := p
    have hlt := (List.getElem?_eq_some_iff.mp hi).1
    refine g_yesT ?_
    rw [if_pos rfl]
    refine (hs i x H' hi s _ fun y H4 s4 r => ⟨ys, s4 D _ h1, Nat.lt_of_le_of_lt (show ys.length ≤ 100000 by omega) (by decide), ?_⟩)
    have f : Fr H4 (upd H4 D (.lst (ys ++ [y]))) [D] := fun b o e n => by
      rw [upd_ne (by simpa using n)]; exact e
    refine ⟨fun b o e => ?_, hD, _, upd_same, by rw [List.length_append, h2]; rfl, fun k z e => ?_⟩
    · rw [upd_ne (ne_of_none e hD)]
      exact s4 b o (s b o e)
    · by_cases hk : k < ys.length
      · rw [List.getElem?_append_left hk] at e
        exact mono k z H4 _ D ys H' hD (s4 D _ h1) h3 f (mono k z H' H4 D ys H' hD h1 h3 (fun b o e _ => s4 b o e) (h3 k z e))
      · rw [List.getElem?_append_right (by omega)] at e
        have hk0 : k - ys.length = 0 := by
          cases q : k - ys.length with
          | zero => rfl
          | succ m => rw [q] at e; cases e
        rw [hk0] at e
        cases e
        have e2 : k = i := by omega
        subst e2
        exact mono k y H4 _ D ys H' hD (s4 D _ h1) h3 f r
  · obtain ⟨s, hD, ys, h1, h2, h3⟩ := p
    exact hd D ys H' hD h1 s h2 h3
end

end
/-! Q2 -/
section
open PySem PySem.Spec PyProof.Rows

def rLtD (K : PySem.W.Frag) : R2 := fun x y H Q => ∃ d e, Dp K H x d ∧ Dp K H y e ∧ PySem.W.alike d e = true ∧ d ≠ .none ∧ d.depth ≤ 64 ∧ Q (.bl (PySem.W.dataLt d e)) H
def rGtD (K : PySem.W.Frag) : R2 := fun x y H Q => ∃ d e, Dp K H x d ∧ Dp K H y e ∧ PySem.W.alike d e = true ∧ d ≠ .none ∧ d.depth ≤ 64 ∧ Q (.bl (PySem.W.dataLt e d)) H
def rLeD (K : PySem.W.Frag) : R2 := fun x y H Q => ∃ d e, Dp K H x d ∧ Dp K H y e ∧ PySem.W.alike d e = true ∧ d ≠ .none ∧ d.depth ≤ 64 ∧ Q (.bl (!PySem.W.dataLt e d)) H
def rGeD (K : PySem.W.Frag) : R2 := fun x y H Q => ∃ d e, Dp K H x d ∧ Dp K H y e ∧ PySem.W.alike d e = true ∧ d ≠ .none ∧ d.depth ≤ 64 ∧ Q (.bl (!PySem.W.dataLt d e)) H
section
variable {X : Cx}
theorem min_room {u a b : Nat} (hu : u + 64 < cLine) (h : a ≤ 64) : u + min a b < cLine := by omega
theorem op_ltD (hu : X.A.units + 64 < cLine) : OpR X (compareOp .Lt) (rLtD X.K) := by
  intro pins s σ H x y v u Q I rx ry h
  obtain ⟨d, e, hd, he, al, hn, hz, q⟩ := h
  obtain ⟨as, r1⟩ := Dp.reads I d x v hd rx
  obtain ⟨bs, r2⟩ := Dp.reads I e y u he ry
  exact PySem.W.lt_data r1 r2 al hn (min_room hu hz) ⟨.bl _, H, I, rfl, q⟩
theorem op_gtD (hu : X.A.units + 64 < cLine) : OpR X (compareOp .Gt) (rGtD X.K) := by
  intro pins s σ H x y v u Q I rx ry h
  obtain ⟨d, e, hd, he, al, hn, hz, q⟩ := h
  obtain ⟨as, r1⟩ := Dp.reads I d x v hd rx
  obtain ⟨bs, r2⟩ := Dp.reads I e y u he ry
  exact PySem.W.gt_data r1 r2 al hn (min_room hu hz) ⟨.bl _, H, I, rfl, q⟩
theorem op_leD (hu : X.A.units + 64 < cLine) : OpR X (compareOp .LtE) (rLeD X.K) := by
  intro pins s σ H x y v u Q I rx ry h
  obtain ⟨d, e, hd, he, al, hn, hz, q⟩ := h
  obtain ⟨as, r1⟩ := Dp.reads I d x v hd rx
  obtain ⟨bs, r2⟩ := Dp.reads I e y u he ry
  exact PySem.W.le_data r1 r2 al hn (min_room hu hz) ⟨.bl _, H, I, rfl, q⟩
theorem op_geD (hu : X.A.units + 64 < cLine) : OpR X (compareOp .GtE) (rGeD X.K) := by
  intro pins s σ H x y v u Q I rx ry h
  obtain ⟨d, e, hd, he, al, hn, hz, q⟩ := h
  obtain ⟨as, r1⟩ := Dp.reads I d x v hd rx
  obtain ⟨bs, r2⟩ := Dp.reads I e y u he ry
  exact PySem.W.ge_data r1 r2 al hn (min_room hu hz) ⟨.bl _, H, I, rfl, q⟩
end
/-! ### tuples of ints -/
def lexI : List Int → List Int → Bool
  | [], [] => false
  | [], _ :: _ => true
  | _ :: _, [] => false
  | x :: xs, y :: ys => if x = y then lexI xs ys else decide (x < y)
section
variable {K : PySem.W.Frag} {H : Hp} {Q : VK}
theorem ints_dps : ∀ ns : List Int, DpAll K H (ns.map V.int) (ns.map PyData.int)
  | [] => .nil
  | n :: ns => .cons (.int n) (ints_dps ns)
theorem ints_alike : ∀ ns ms : List Int, PySem.W.alikeAll (ns.map PyData.int) (ms.map PyData.int) = true
  | [], _ => by simp only [List.map_nil, PySem.W.alikeAll]
  | _ :: _, [] => by simp only [List.map_nil, List.map_cons, PySem.W.alikeAll]
  | n :: ns, m :: ms => by simp only [List.map_cons, PySem.W.alikeAll, PySem.W.alike, ints_alike ns ms, Bool.and_self]
theorem ints_depth : ∀ ns : List Int, PyData.depthAll (ns.map PyData.int) = 0
  | [] => by simp only [List.map_nil, PyData.depthAll]
  | n :: ns => by simp only [List.map_cons, PyData.depthAll, PyData.depth, ints_depth ns, Nat.max_self]
theorem listLt_lexI : ∀ ns ms : List Int, PySem.W.listLt ns ms = lexI ns ms
  | [], [] => by simp only [PySem.W.listLt, lexI]
  | [], _ :: _ => by simp only [PySem.W.listLt, lexI]
  | _ :: _, [] => by simp only [PySem.W.listLt, lexI]
  | n :: ns, m :: ms => by
    simp only [PySem.W.listLt, lexI, listLt_lexI ns ms]
    rfl
theorem dataLt_ints (ns ms : List Int) : PySem.W.dataLt (.tuple (ns.map PyData.int)) (.tuple (ms.map PyData.int)) = lexI ns ms := by
  rw [PySem.W.dataLt_tuple, ← listLt_lexI]
  exact PySem.W.lexAll_map ns ms
theorem ints_cmp (ns ms : List Int) : PySem.W.alike (.tuple (ns.map PyData.int)) (.tuple (ms.map PyData.int)) = true ∧ (PyData.tuple (ns.map PyData.int)) ≠ .none ∧ (PyData.tuple (ns.map PyData.int)).depth ≤ 64 :=
  ⟨by simp only [PySem.W.alike, ints_alike], (fun h => by cases h), by simp only [PyData.depth, ints_depth]; decide⟩
theorem v_ltTI {a b : Addr} {ns ms : List Int} (ea : H a = some (.tup (ns.map V.int))) (eb : H b = some (.tup (ms.map V.int))) (q : Q (.bl (lexI ns ms)) H) : rLtD K (.ref a) (.ref b) H Q :=
  ⟨_, _, .tup (Evl.st_of ea) (ints_dps ns), .tup (Evl.st_of eb) (ints_dps ms), (ints_cmp ns ms).1, (ints_cmp ns ms).2.1, (ints_cmp ns ms).2.2, by rw [dataLt_ints]; exact q⟩
theorem v_gtTI {a b : Addr} {ns ms : List Int} (ea : H a = some (.tup (ns.map V.int))) (eb : H b = some (.tup (ms.map V.int))) (q : Q (.bl (lexI ms ns)) H) : rGtD K (.ref a) (.ref b) H Q :=
  ⟨_, _, .tup (Evl.st_of ea) (ints_dps ns), .tup (Evl.st_of eb) (ints_dps ms), (ints_cmp ns ms).1, (ints_cmp ns ms).2.1, (ints_cmp ns ms).2.2, by rw [dataLt_ints]; exact q⟩
theorem v_leTI {a b : Addr} {ns ms : List Int} (ea : H a = some (.tup (ns.map V.int))) (eb : H b = some (.tup (ms.map V.int))) (q : Q (.bl (!lexI ms ns)) H) : rLeD K (.ref a) (.ref b) H Q :=
  ⟨_, _, .tup (Evl.st_of ea) (ints_dps ns), .tup (Evl.st_of eb) (ints_dps ms), (ints_cmp ns ms).1, (ints_cmp ns ms).2.1, (ints_cmp ns ms).2.2, by rw [dataLt_ints]; exact q⟩
theorem v_geTI {a b : Addr} {ns ms : List Int} (ea : H a = some (.tup (ns.map V.int))) (eb : H b = some (.tup (ms.map V.int))) (q : Q (.bl (!lexI ns ms)) H) : rGeD K (.ref a) (.ref b) H Q :=
  ⟨_, _, .tup (Evl.st_of ea) (ints_dps ns), .tup (Evl.st_of eb) (ints_dps ms), (ints_cmp ns ms).1, (ints_cmp ns ms).2.1, (ints_cmp ns ms).2.2, by rw [dataLt_ints]; exact q⟩
end
end
/-! Q3 -/
section
open PySem PySem.Spec PyProof.Rows PySem.SeqAt

theorem tupF_lt (p q : Addr) (its jts : Array Value) (n n2 : Nat) (dd dd2 : Option Addr) (sl sl2 : Array (Option Value)) (e r : Nat → Bool) :
    Meets (Builtin.«tuple.__lt__» ⟨[.ref p, .ref q], []⟩)
      (fun A R s => s.heap.get? p = some { cls := .type "tuple", dict := dd, data := .seq its n, slots := sl } ∧ s.heap.get? q = some { cls := .type "tuple", dict := dd2, data := .seq jts n2, slots := sl2 } ∧
        (∀ j (k1 : j < its.size) (k2 : j < jts.size), EqAt A.in1 s its[j] jts[j] (e j)) ∧
        (∀ j (k1 : j < its.size) (k2 : j < jts.size), (∀ k, k < j → e k = true) → e j = false → Ob.RcOp .Lt A.in1 s its[j] jts[j] (r j)) ∧
        R (.ok (.ret (.bool (Ob.lexAt e r (decide (its.size < jts.size)) 0 (min its.size jts.size))))) s) :=
  .of_wp fun prog w A R s h => by
    obtain ⟨m0, gs, ds, ts, ws⟩ := s
    obtain ⟨gp, gq, he, hr, h⟩ := h
    have sub2 := AutoSeq1.sub_tuple_tuple
    have zl : (its.toList.zip jts.toList).length = min its.size jts.size := by simp
    wp_walk using wpAny_loadPart' gp, wpAny_loadPart' gq, wpAny_forIn_list _ (fun rest b s' => b.1 = none ∧ s' = ⟨m0, gs, ds, ts, ws⟩ ∧ ∃ i, (∀ k, k < i → e k = true) ∧ rest = (its.toList.zip jts.toList).drop i ∧
      R (.ok (.ret (.bool (Ob.lexAt e r (decide (its.size < jts.size)) i (min its.size jts.size - i))))) ⟨m0, gs, ds, ts, ws⟩) _
    case turn =>
      rintro ⟨y, x⟩ rest b s' ⟨gb, rfl, i, hall, hz, hR⟩
      have hlt : i < (its.toList.zip jts.toList).length := by
        by_cases hh : i < (its.toList.zip jts.toList).length
        · exact hh
        · rw [List.drop_of_length_le (Nat.le_of_not_lt hh)] at hz; cases hz
      have hm : i < min its.size jts.size := zl ▸ hlt
      have k1 : i < its.size := Nat.lt_of_lt_of_le hm (Nat.min_le_left _ _)
      have k2 : i < jts.size := Nat.lt_of_lt_of_le hm (Nat.min_le_right _ _)
      rw [List.drop_eq_getElem_cons hlt] at hz
      injection hz with hyx hrest
      have ey : y = its[i] := by have := congrArg Prod.fst hyx; simpa using this
      have ex : x = jts[i] := by have := congrArg Prod.snd hyx; simpa using this
      subst ey ex
      rw [show min its.size jts.size - i = (min its.size jts.size - (i + 1)) + 1 by omega, Ob.lexAt_succ] at hR
      refine wpAny_bind (he i k1 k2 prog w _ _ ?_)
      cases hei : e i with
      | true =>
        rw [hei, if_pos rfl] at hR
        wp_walk
        refine ⟨rfl, rfl, i + 1, fun k hk => ?_, hrest, hR⟩
        by_cases hki : k = i
        · rw [hki]; exact hei
        · exact hall k (by omega)
      | false =>
        rw [hei, if_neg Bool.false_ne_true] at hR
        have go1 := hr i k1 k2 hall hei prog w
        wp_walk using go1
        exact ⟨_, rfl, by simpa using hR⟩
    case fin =>
      rintro ⟨b1, b2⟩ s' ⟨gb, rfl, i, hall, hz, hR⟩
      simp only at gb
      subst gb
      have hge : min its.size jts.size ≤ i := by
        by_cases hh : i < (its.toList.zip jts.toList).length
        · rw [List.drop_eq_getElem_cons hh] at hz; cases hz
        · rw [zl] at hh; omega
      rw [Nat.sub_eq_zero_of_le hge, Ob.lexAt_zero] at hR
      wp_walk
      exact ⟨_, rfl, by simpa [Builtin.Tuple.tupleCompareSizes] using hR⟩
    case h =>
      exact ⟨rfl, rfl, 0, fun k hk => absurd hk (by omega), rfl, by simpa using h⟩
theorem tupFR_lt {A : Around} {s : Shared} {p q : Addr} {its jts : Array Value} {e r : Nat → Bool} (gp : s.heap.IsTuple p its) (gq : s.heap.IsTuple q jts) (hu : A.units < cLine)
    (he : ∀ j (k1 : j < its.size) (k2 : j < jts.size), EqAt A.in1 s its[j] jts[j] (e j))
    (hr : ∀ j (k1 : j < its.size) (k2 : j < jts.size), (∀ k, k < j → e k = true) → e j = false → Ob.RcOp .Lt A.in1 s its[j] jts[j] (r j)) :
    Ob.RcOp .Lt A s (.ref p) (.ref q) (Ob.lexAt e r (decide (its.size < jts.size)) 0 (min its.size jts.size)) := fun prog w E Q h => by
  obtain ⟨⟨c1, d1, a1, s1⟩, o1, i1, n, j1⟩ := id gp
  obtain ⟨⟨c2, d2, a2, s2⟩, o2, i2, n2, j2⟩ := id gq
  simp only at i1 j1 i2 j2
  subst i1 j1 i2 j2
  exact richCompare_meets_room (op := .Lt) ⟨_, o1, rfl⟩ ⟨_, o2, rfl⟩ F.slot_tuple_lt F.entry_tuple_lt (F.args_tuple_lt_2 _ _) (tupF_lt p q its jts n n2 d1 d2 s1 s2 e r) ⟨o1, o2, he, hr, ⟨(fun x => nomatch x), h⟩⟩ hu

theorem tupF_gt (p q : Addr) (its jts : Array Value) (n n2 : Nat) (dd dd2 : Option Addr) (sl sl2 : Array (Option Value)) (e r : Nat → Bool) :
    Meets (Builtin.«tuple.__gt__» ⟨[.ref p, .ref q], []⟩)
      (fun A R s => s.heap.get? p = some { cls := .type "tuple", dict := dd, data := .seq its n, slots := sl } ∧ s.heap.get? q = some { cls := .type "tuple", dict := dd2, data := .seq jts n2, slots := sl2 } ∧
        (∀ j (k1 : j < its.size) (k2 : j < jts.size), EqAt A.in1 s its[j] jts[j] (e j)) ∧
        (∀ j (k1 : j < its.size) (k2 : j < jts.size), (∀ k, k < j → e k = true) → e j = false → Ob.RcOp .Gt A.in1 s its[j] jts[j] (r j)) ∧
        R (.ok (.ret (.bool (Ob.lexAt e r (decide (jts.size < its.size)) 0 (min its.size jts.size))))) s) :=
  .of_wp fun prog w A R s h => by
    obtain ⟨m0, gs, ds, ts, ws⟩ := s
    obtain ⟨gp, gq, he, hr, h⟩ := h
    have sub2 := AutoSeq1.sub_tuple_tuple
    have zl : (its.toList.zip jts.toList).length = min its.size jts.size := by simp
    wp_walk using wpAny_loadPart' gp, wpAny_loadPart' gq, wpAny_forIn_list _ (fun rest b s' => b.1 = none ∧ s' = ⟨m0, gs, ds, ts, ws⟩ ∧ ∃ i, (∀ k, k < i → e k = true) ∧ rest = (its.toList.zip jts.toList).drop i ∧
      R (.ok (.ret (.bool (Ob.lexAt e r (decide (jts.size < its.size)) i (min its.size jts.size - i))))) ⟨m0, gs, ds, ts, ws⟩) _
    case turn =>
      rintro ⟨y, x⟩ rest b s' ⟨gb, rfl, i, hall, hz, hR⟩
      have hlt : i < (its.toList.zip jts.toList).length := by
        by_cases hh : i < (its.toList.zip jts.toList).length
        · exact hh
        · rw [List.drop_of_length_le (Nat.le_of_not_lt hh)] at hz; cases hz
      have hm : i < min its.size jts.size := zl ▸ hlt
      have k1 : i < its.size := Nat.lt_of_lt_of_le hm (Nat.min_le_left _ _)
      have k2 : i < jts.size := Nat.lt_of_lt_of_le hm (Nat.min_le_right _ _)
      rw [List.drop_eq_getElem_cons hlt] at hz
      injection hz with hyx hrest
      have ey : y = its[i] := by have := congrArg Prod.fst hyx; simpa using this
      have ex : x = jts[i] := by have := congrArg Prod.snd hyx; simpa using this
      subst ey ex
      rw [show min its.size jts.size - i = (min its.size jts.size - (i + 1)) + 1 by omega, Ob.lexAt_succ] at hR
      refine wpAny_bind (he i k1 k2 prog w _ _ ?_)
      cases hei : e i with
      | true =>
        rw [hei, if_pos rfl] at hR
        wp_walk
        refine ⟨rfl, rfl, i + 1, fun k hk => ?_, hrest, hR⟩
        by_cases hki : k = i
        · rw [hki]; exact hei
        · exact hall k (by omega)
      | false =>
        rw [hei, if_neg Bool.false_ne_true] at hR
        have go1 := hr i k1 k2 hall hei prog w
        wp_walk using go1
        exact ⟨_, rfl, by simpa using hR⟩
    case fin =>
      rintro ⟨b1, b2⟩ s' ⟨gb, rfl, i, hall, hz, hR⟩
      simp only at gb
      subst gb
      have hge : min its.size jts.size ≤ i := by
        by_cases hh : i < (its.toList.zip jts.toList).length
        · rw [List.drop_eq_getElem_cons hh] at hz; cases hz
        · rw [zl] at hh; omega
      rw [Nat.sub_eq_zero_of_le hge, Ob.lexAt_zero] at hR
      wp_walk
      exact ⟨_, rfl, by simpa [Builtin.Tuple.tupleCompareSizes] using hR⟩
    case h =>
      exact ⟨rfl, rfl, 0, fun k hk => absurd hk (by omega), rfl, by simpa using h⟩
theorem tupFR_gt {A : Around} {s : Shared} {p q : Addr} {its jts : Array Value} {e r : Nat → Bool} (gp : s.heap.IsTuple p its) (gq : s.heap.IsTuple q jts) (hu : A.units < cLine)
    (he : ∀ j (k1 : j < its.size) (k2 : j < jts.size), EqAt A.in1 s its[j] jts[j] (e j))
    (hr : ∀ j (k1 : j < its.size) (k2 : j < jts.size), (∀ k, k < j → e k = true) → e j = false → Ob.RcOp .Gt A.in1 s its[j] jts[j] (r j)) :
    Ob.RcOp .Gt A s (.ref p) (.ref q) (Ob.lexAt e r (decide (jts.size < its.size)) 0 (min its.size jts.size)) := fun prog w E Q h => by
  obtain ⟨⟨c1, d1, a1, s1⟩, o1, i1, n, j1⟩ := id gp
  obtain ⟨⟨c2, d2, a2, s2⟩, o2, i2, n2, j2⟩ := id gq
  simp only at i1 j1 i2 j2
  subst i1 j1 i2 j2
  exact richCompare_meets_room (op := .Gt) ⟨_, o1, rfl⟩ ⟨_, o2, rfl⟩ F.slot_tuple_gt F.entry_tuple_gt (F.args_tuple_gt_2 _ _) (tupF_gt p q its jts n n2 d1 d2 s1 s2 e r) ⟨o1, o2, he, hr, ⟨(fun x => nomatch x), h⟩⟩ hu
end
/-! Q4 -/
section
open PySem PySem.Spec PyProof.Rows PySem.SeqAt PySem.W

theorem max2H_max {prog : Program} {w : World} {A : Around} {E : Value → Shared → Prop} {s : Shared} {a b : Value} {Q : Value → Shared → Prop}
    (h : wpAny (model prog w) A.in1 (pyIter (.ref s.heap.objs.size)) (fun it z => ∃ I fp wr G n P St H bt, it = .ref I ∧ WalksS prog w A.in1 I fp wr G n P St ∧ St 0 z ∧ (∀ b ∈ fp, b < z.heap.objs.size) ∧ 0 < n ∧
      (∀ b o, H.get? b = some o → b ∉ wr) ∧ (∀ b o, H.get? b = some o → z.heap.get? b = some o) ∧ CmpIn prog w A.in1 .Gt H P bt ∧ ∀ v s', P (argBest bt (n - 1)) v → Moved wr G z s' → Q v s') E
      { s with heap := s.heap.push { cls := .type "tuple", data := .seq #[a, b] } }) :
    wpAny (model prog w) A (call (.builtin "max") [a, b]) Q E s := by
  have nameL : (toString "max" ++ toString ".loop" : String) = "max.loop" := by decide
  refine call_function_tree (F.kind_max) (F.plain_max) (F.entry_max) (F.args_max2 _ _) ?_
  show wpAny _ A.in1 ((Builtin.Builtins.bindParams "max" ["key", "default"] 0 ⟨[], []⟩) >>= _) _ _ s
  refine wpAny_bind (wpAny_of_eq (show (Builtin.Builtins.bindParams "max" ["key", "default"] 0 ⟨[], []⟩) = pure [none, none] from rfl) ?_)
  show wpAny _ A.in1 ((newTuple [a, b]) >>= _) _ _ s
  refine wpAny_bind (wpAny_newObj_type ?_)
  refine wpAny_bind (wpAny_mono h (fun it z hz => ?_) fun _ _ e => e)
  obtain ⟨I, fp, wr, G, n, P, St, H, bt, rfl, W, st0, ffp, hn, nw, kp, cm, done⟩ := hz
  refine wpAny_bind (wpAny_newObj_type ?_)
  have fS : z.heap.objs.size ∉ fp := fun hm => Nat.lt_irrefl _ (ffp _ hm)
  rw [nameL]
  refine wpAny_pure ⟨plainId_quiet F.plain_max_loop _, codeAny_max_loop_firstH W H nw bt cm z.heap.objs.size fS (fresh_in kp) _ hn (fun b o e => Heap.get?_push_of_some _ (kp b o e)) (W.frame 0 z _ z.toks st0 (Nat.le_refl _) fun b _ o e => Heap.get?_push_of_some _ e) (Heap.get?_push_size _ rfl) fun v s' hP hm => ?_⟩
  exact done v s' hP (Moved.drop_new (tk := z.toks) hm (Nat.le_refl _))

theorem max2H_min {prog : Program} {w : World} {A : Around} {E : Value → Shared → Prop} {s : Shared} {a b : Value} {Q : Value → Shared → Prop}
    (h : wpAny (model prog w) A.in1 (pyIter (.ref s.heap.objs.size)) (fun it z => ∃ I fp wr G n P St H bt, it = .ref I ∧ WalksS prog w A.in1 I fp wr G n P St ∧ St 0 z ∧ (∀ b ∈ fp, b < z.heap.objs.size) ∧ 0 < n ∧
      (∀ b o, H.get? b = some o → b ∉ wr) ∧ (∀ b o, H.get? b = some o → z.heap.get? b = some o) ∧ CmpIn prog w A.in1 .Lt H P bt ∧ ∀ v s', P (argBest bt (n - 1)) v → Moved wr G z s' → Q v s') E
      { s with heap := s.heap.push { cls := .type "tuple", data := .seq #[a, b] } }) :
    wpAny (model prog w) A (call (.builtin "min") [a, b]) Q E s := by
  have nameL : (toString "min" ++ toString ".loop" : String) = "min.loop" := by decide
  refine call_function_tree (F.kind_min) (F.plain_min) (F.entry_min) (F.args_min2 _ _) ?_
  show wpAny _ A.in1 ((Builtin.Builtins.bindParams "min" ["key", "default"] 0 ⟨[], []⟩) >>= _) _ _ s
  refine wpAny_bind (wpAny_of_eq (show (Builtin.Builtins.bindParams "min" ["key", "default"] 0 ⟨[], []⟩) = pure [none, none] from rfl) ?_)
  show wpAny _ A.in1 ((newTuple [a, b]) >>= _) _ _ s
  refine wpAny_bind (wpAny_newObj_type ?_)
  refine wpAny_bind (wpAny_mono h (fun it z hz => ?_) fun _ _ e => e)
  obtain ⟨I, fp, wr, G, n, P, St, H, bt, rfl, W, st0, ffp, hn, nw, kp, cm, done⟩ := hz
  refine wpAny_bind (wpAny_newObj_type ?_)
  have fS : z.heap.objs.size ∉ fp := fun hm => Nat.lt_irrefl _ (ffp _ hm)
  rw [nameL]
  refine wpAny_pure ⟨plainId_quiet F.plain_min_loop _, codeAny_min_loop_firstH W H nw bt cm z.heap.objs.size fS (fresh_in kp) _ hn (fun b o e => Heap.get?_push_of_some _ (kp b o e)) (W.frame 0 z _ z.toks st0 (Nat.le_refl _) fun b _ o e => Heap.get?_push_of_some _ e) (Heap.get?_push_size _ rfl) fun v s' hP hm => ?_⟩
  exact done v s' hP (Moved.drop_new (tk := z.toks) hm (Nat.le_refl _))

theorem two_max {prog : Program} {w : World} {A : Around} {E : Value → Shared → Prop} {s : Shared} {a b : Value} {da db : PyData} {as bs : List Addr} {Q : Value → Shared → Prop} (hh : A.handled = none) (ra : Reads s.heap a da as) (rb : Reads s.heap b db bs)
    (al : AlikeAll [da, db]) (hu : A.units + 1 + PyData.depthAll [da, db] < cLine) (h : ∀ h' tk, (∀ c o, s.heap.get? c = some o → h'.get? c = some o) → Q (if dataLt da db = true then b else a) { s with heap := h', toks := tk }) :
    wpAny (model prog w) A (call (.builtin "max") [a, b]) Q E s := by
  refine max2H_max ?_
  have ext : ∀ c o, s.heap.get? c = some o → (s.heap.push { cls := .type "tuple", data := .seq #[a, b] }).get? c = some o := fun c o e => Heap.get?_push_of_some _ e
  have hT : (s.heap.push { cls := .type "tuple", data := .seq #[a, b] }).IsTuple s.heap.objs.size #[a, b] := ⟨_, Heap.get?_push_size _ rfl, rfl, 0, rfl⟩
  have rs : ReadsAll (s.heap.push { cls := .type "tuple", data := .seq #[a, b] }) (#[a, b] : Array Value).toList [da, db] _ := .cons (reads_keeps ext ra) (.cons (reads_keeps ext rb) .nil)
  refine iter_tupleW (A := A.in1) hh hT fun z e W st ffp nw kp => ?_
  refine ⟨_, _, _, _, _, _, _, _, _, rfl, W, st, ffp, (by decide : 0 < 2), nw, kp, cmpIn_gt (A := A.in1) rs al (by show A.units + 1 + _ < _; exact hu), fun v s' hP m => ?_⟩
  obtain ⟨h', tk, rfl, hk⟩ := moved_old e rfl m
  have q := h h' tk fun c o e => hk c o (ext c o e)
  have ev : v = if dataLt da db = true then b else a := by
    cases hc : dataLt da db <;> simp [argBest, hc] at hP <;> simp [hP]
  rw [ev]
  exact q

theorem two_min {prog : Program} {w : World} {A : Around} {E : Value → Shared → Prop} {s : Shared} {a b : Value} {da db : PyData} {as bs : List Addr} {Q : Value → Shared → Prop} (hh : A.handled = none) (ra : Reads s.heap a da as) (rb : Reads s.heap b db bs)
    (al : AlikeAll [da, db]) (hu : A.units + 1 + PyData.depthAll [da, db] < cLine) (h : ∀ h' tk, (∀ c o, s.heap.get? c = some o → h'.get? c = some o) → Q (if dataLt db da = true then b else a) { s with heap := h', toks := tk }) :
    wpAny (model prog w) A (call (.builtin "min") [a, b]) Q E s := by
  refine max2H_min ?_
  have ext : ∀ c o, s.heap.get? c = some o → (s.heap.push { cls := .type "tuple", data := .seq #[a, b] }).get? c = some o := fun c o e => Heap.get?_push_of_some _ e
  have hT : (s.heap.push { cls := .type "tuple", data := .seq #[a, b] }).IsTuple s.heap.objs.size #[a, b] := ⟨_, Heap.get?_push_size _ rfl, rfl, 0, rfl⟩
  have rs : ReadsAll (s.heap.push { cls := .type "tuple", data := .seq #[a, b] }) (#[a, b] : Array Value).toList [da, db] _ := .cons (reads_keeps ext ra) (.cons (reads_keeps ext rb) .nil)
  refine iter_tupleW (A := A.in1) hh hT fun z e W st ffp nw kp => ?_
  refine ⟨_, _, _, _, _, _, _, _, _, rfl, W, st, ffp, (by decide : 0 < 2), nw, kp, cmpIn_lt (A := A.in1) rs al (by show A.units + 1 + _ < _; exact hu), fun v s' hP m => ?_⟩
  obtain ⟨h', tk, rfl, hk⟩ := moved_old e rfl m
  have q := h h' tk fun c o e => hk c o (ext c o e)
  have ev : v = if dataLt db da = true then b else a := by
    cases hc : dataLt db da <;> simp [argBest, hc] at hP <;> simp [hP]
  rw [ev]
  exact q
end
/-! Q5 -/
section
open PySem PySem.Spec PyProof.Rows
theorem ints_alikeAll (ns ms : List Int) : PySem.W.AlikeAll [PyData.tuple (ns.map PyData.int), PyData.tuple (ms.map PyData.int)] := by
  constructor
  · intro x hx y hy
    simp only [List.mem_cons, List.not_mem_nil, or_false] at hx hy
    rcases hx with rfl | rfl <;> rcases hy with rfl | rfl <;> simp only [PySem.W.alike, ints_alike]
  · intro x hx
    simp only [List.mem_cons, List.not_mem_nil, or_false] at hx
    rcases hx with rfl | rfl <;> exact fun h => by cases h
theorem ints_room (ns ms : List Int) : PyData.depthAll [PyData.tuple (ns.map PyData.int), PyData.tuple (ms.map PyData.int)] = 1 := by
  simp only [PyData.depthAll, PyData.depth, ints_depth]
  decide
def rMaxT (K : PySem.W.Frag) : List V → Hp → VK → Prop := fun xs H Q => ∃ (a b : Addr) (ns ms : List Int), xs = [.ref a, .ref b] ∧ SqT K H a (ns.map V.int) ∧ SqT K H b (ms.map V.int) ∧ Q (if lexI ns ms = true then .ref b else .ref a) H
def rMinT (K : PySem.W.Frag) : List V → Hp → VK → Prop := fun xs H Q => ∃ (a b : Addr) (ns ms : List Int), xs = [.ref a, .ref b] ∧ SqT K H a (ns.map V.int) ∧ SqT K H b (ms.map V.int) ∧ Q (if lexI ms ns = true then .ref b else .ref a) H
theorem cMaxT {X : Cx} (hc : X.calm = true) (hu : X.A.units + 64 < cLine) : CallR X (.builtin "max") (rMaxT X.K) := by
  intro pins s σ H xs us Q I r h
  obtain ⟨a, b, ns, ms, rfl, ha, hb, q⟩ := h
  obtain ⟨u, w', rfl, r1, r2⟩ := vals2 r
  obtain ⟨as, ra⟩ := Dp.reads I _ _ _ (.tup ha (ints_dps ns)) r1
  obtain ⟨bs, rb⟩ := Dp.reads I _ _ _ (.tup hb (ints_dps ms)) r2
  refine two_max (I.ok.hd hc) ra rb (ints_alikeAll ns ms) (by rw [ints_room]; omega) fun h' tk k => ⟨_, H, I.kept k, ?_, q⟩
  rw [dataLt_ints]
  cases lexI ns ms
  · exact r1
  · exact r2
theorem cMinT {X : Cx} (hc : X.calm = true) (hu : X.A.units + 64 < cLine) : CallR X (.builtin "min") (rMinT X.K) := by
  intro pins s σ H xs us Q I r h
  obtain ⟨a, b, ns, ms, rfl, ha, hb, q⟩ := h
  obtain ⟨u, w', rfl, r1, r2⟩ := vals2 r
  obtain ⟨as, ra⟩ := Dp.reads I _ _ _ (.tup ha (ints_dps ns)) r1
  obtain ⟨bs, rb⟩ := Dp.reads I _ _ _ (.tup hb (ints_dps ms)) r2
  refine two_min (I.ok.hd hc) ra rb (ints_alikeAll ns ms) (by rw [ints_room]; omega) fun h' tk k => ⟨_, H, I.kept k, ?_, q⟩
  rw [dataLt_ints]
  cases lexI ms ns
  · exact r1
  · exact r2
end
/-! Q6 -/
section
open PySem PySem.Spec PyProof.Rows
/-- lexicographic, the items compared by lt where they are unlike -/
def lexD (lt : PyData → PyData → Bool) : List PyData → List PyData → Bool
  | [], [] => false
  | [], _ :: _ => true
  | _ :: _, [] => false
  | x :: xs, y :: ys => if PyData.eqv x y = true then lexD lt xs ys else lt x y
theorem lexAt_shift (e r e' r' : Nat → Bool) (z : Bool) : ∀ (n i : Nat), (∀ j, i ≤ j → e (j + 1) = e' j ∧ r (j + 1) = r' j) → Ob.lexAt e r z (i + 1) n = Ob.lexAt e' r' z i n
  | 0, i, _ => by rw [Ob.lexAt_zero, Ob.lexAt_zero]
  | n + 1, i, h => by
    rw [Ob.lexAt_succ, Ob.lexAt_succ, (h i (Nat.le_refl _)).1, (h i (Nat.le_refl _)).2, lexAt_shift e r e' r' z n (i + 1) fun j hj => h j (by omega)]
theorem lexAt_lexD (lt : PyData → PyData → Bool) : ∀ xs ys : List PyData,
    Ob.lexAt (fun j => PyData.eqv (xs.getD j .none) (ys.getD j .none)) (fun j => lt (xs.getD j .none) (ys.getD j .none)) (decide (xs.length < ys.length)) 0 (min xs.length ys.length) = lexD lt xs ys
  | [], [] => by rw [show min ([] : List PyData).length ([] : List PyData).length = 0 from rfl, Ob.lexAt_zero]; rfl
  | [], y :: ys => by rw [show min ([] : List PyData).length (y :: ys).length = 0 from Nat.zero_min _, Ob.lexAt_zero]; exact decide_eq_true (Nat.succ_pos _)
  | x :: xs, [] => by rw [show min (x :: xs).length ([] : List PyData).length = 0 from Nat.min_zero _, Ob.lexAt_zero]; exact decide_eq_false (Nat.not_lt_zero _)
  | x :: xs, y :: ys => by
    have e : min (x :: xs).length (y :: ys).length = min xs.length ys.length + 1 := by rw [List.length_cons, List.length_cons]; omega
    have ih := lexAt_lexD lt xs ys
    rw [e, Ob.lexAt_succ, lexAt_shift _ _ (fun j => PyData.eqv (xs.getD j .none) (ys.getD j .none)) (fun j => lt (xs.getD j .none) (ys.getD j .none)) _ _ 0 fun j _ => ⟨rfl, rfl⟩]
    have ez : decide ((x :: xs).length < (y :: ys).length) = decide (xs.length < ys.length) := by rw [List.length_cons, List.length_cons, decide_eq_decide]; omega
    rw [ez, ih]
    rfl
def lexG (gt : PyData → PyData → Bool) : List PyData → List PyData → Bool
  | [], [] => false
  | [], _ :: _ => false
  | _ :: _, [] => true
  | x :: xs, y :: ys => if PyData.eqv x y = true then lexG gt xs ys else gt x y
theorem lexAt_lexG (gt : PyData → PyData → Bool) : ∀ xs ys : List PyData,
    Ob.lexAt (fun j => PyData.eqv (xs.getD j .none) (ys.getD j .none)) (fun j => gt (xs.getD j .none) (ys.getD j .none)) (decide (ys.length < xs.length)) 0 (min xs.length ys.length) = lexG gt xs ys
  | [], [] => by rw [show min ([] : List PyData).length ([] : List PyData).length = 0 from rfl, Ob.lexAt_zero]; rfl
  | [], y :: ys => by rw [show min ([] : List PyData).length (y :: ys).length = 0 from Nat.zero_min _, Ob.lexAt_zero]; exact decide_eq_false (Nat.not_lt_zero _)
  | x :: xs, [] => by rw [show min (x :: xs).length ([] : List PyData).length = 0 from Nat.min_zero _, Ob.lexAt_zero]; exact decide_eq_true (Nat.succ_pos _)
  | x :: xs, y :: ys => by
    have e : min (x :: xs).length (y :: ys).length = min xs.length ys.length + 1 := by rw [List.length_cons, List.length_cons]; omega
    have ih := lexAt_lexG gt xs ys
    rw [e, Ob.lexAt_succ, lexAt_shift _ _ (fun j => PyData.eqv (xs.getD j .none) (ys.getD j .none)) (fun j => gt (xs.getD j .none) (ys.getD j .none)) _ _ 0 fun j _ => ⟨rfl, rfl⟩]
    have ez : decide ((y :: ys).length < (x :: xs).length) = decide (ys.length < xs.length) := by rw [List.length_cons, List.length_cons, decide_eq_decide]; omega
    rw [ez, ih]
    rfl
end
/-! Q7 -/
section
open PySem PySem.Spec PyProof.Rows
/-- what must be known of the items: the first unlike ones can be compared -/
def CmpAll (op : CmpOp) (A : Around) (s : Shared) (lt : PyData → PyData → Bool) (xs ys : List PyData) (us ws : List Value) : Prop :=
  ∀ (j : Nat) x y u w, xs[j]? = some x → ys[j]? = some y → us[j]? = some u → ws[j]? = some w → (∀ k, k < j → PyData.eqv (xs.getD k .none) (ys.getD k .none) = true) → PyData.eqv x y = false → Ob.RcOp op A.in1 s u w (lt x y)
section
variable {A : Around} {s : Shared} {p q : Addr} {xs ys : List PyData} {us ws : Array Value} {as bs : List Addr}
theorem items_eqAt2 (ra : ReadsAll s.heap us.toList xs as) (rb : ReadsAll s.heap ws.toList ys bs) (ha : PyData.canLayAll0 xs = true) (hb : PyData.canLayAll0 ys = true) (hu : A.in1.units + 64 < cLine) (hd : PyData.depthAll xs ≤ 64)
    (j : Nat) (k1 : j < us.size) (k2 : j < ws.size) : SeqAt.EqAt A.in1 s us[j] ws[j] (PyData.eqv (xs.getD j .none) (ys.getD j .none)) := by
  obtain ⟨c1, r1, l1, m1, d1⟩ := PySem.W.readsAll_atA ra j us[j] (by simp)
  obtain ⟨c2, r2, l2, m2, d2⟩ := PySem.W.readsAll_atA rb j ws[j] (by simp)
  exact SeqAt.eqAt_reads _ _ A.in1 s _ _ _ _ r1 r2 (PyData.canLay0_of_mem xs _ ha m1) (PyData.canLay0_of_mem ys _ hb m2) (by omega)

theorem tup_lt (gp : s.heap.IsTuple p us) (gq : s.heap.IsTuple q ws) (ra : ReadsAll s.heap us.toList xs as) (rb : ReadsAll s.heap ws.toList ys bs) (ha : PyData.canLayAll0 xs = true) (hb : PyData.canLayAll0 ys = true) (hu : A.in1.units + 64 < cLine) (hd : PyData.depthAll xs ≤ 64)
    (lt : PyData → PyData → Bool) (h : CmpAll .Lt A s lt xs ys us.toList ws.toList) : Ob.RcOp .Lt A s (.ref p) (.ref q) (lexD lt xs ys) := by
  have l1 : us.size = xs.length := by rw [← Array.length_toList]; exact SeqAt.ReadsAll.length _ _ _ ra
  have l2 : ws.size = ys.length := by rw [← Array.length_toList]; exact SeqAt.ReadsAll.length _ _ _ rb
  have hu0 : A.units < cLine := by
    have e : A.in1.units = A.units + 1 := rfl
    omega
  have z := tupFR_lt (e := fun j => PyData.eqv (xs.getD j .none) (ys.getD j .none)) (r := fun j => lt (xs.getD j .none) (ys.getD j .none)) gp gq hu0 (fun j k1 k2 => items_eqAt2 ra rb ha hb hu hd j k1 k2) (fun j k1 k2 hall hne => ?_)
  · rw [l1, l2, lexAt_lexD] at z
    exact z
  · have g1 : xs[j]? = some (xs.getD j .none) := by rw [List.getD_eq_getElem?_getD, List.getElem?_eq_getElem (by omega)]; rfl
    have g2 : ys[j]? = some (ys.getD j .none) := by rw [List.getD_eq_getElem?_getD, List.getElem?_eq_getElem (by omega)]; rfl
    exact h j _ _ us[j] ws[j] g1 g2 (by simp) (by simp) hall hne
theorem tup_gt (gp : s.heap.IsTuple p us) (gq : s.heap.IsTuple q ws) (ra : ReadsAll s.heap us.toList xs as) (rb : ReadsAll s.heap ws.toList ys bs) (ha : PyData.canLayAll0 xs = true) (hb : PyData.canLayAll0 ys = true) (hu : A.in1.units + 64 < cLine) (hd : PyData.depthAll xs ≤ 64)
    (lt : PyData → PyData → Bool) (h : CmpAll .Gt A s lt xs ys us.toList ws.toList) : Ob.RcOp .Gt A s (.ref p) (.ref q) (lexG lt xs ys) := by
  have l1 : us.size = xs.length := by rw [← Array.length_toList]; exact SeqAt.ReadsAll.length _ _ _ ra
  have l2 : ws.size = ys.length := by rw [← Array.length_toList]; exact SeqAt.ReadsAll.length _ _ _ rb
  have hu0 : A.units < cLine := by
    have e : A.in1.units = A.units + 1 := rfl
    omega
  have z := tupFR_gt (e := fun j => PyData.eqv (xs.getD j .none) (ys.getD j .none)) (r := fun j => lt (xs.getD j .none) (ys.getD j .none)) gp gq hu0 (fun j k1 k2 => items_eqAt2 ra rb ha hb hu hd j k1 k2) (fun j k1 k2 hall hne => ?_)
  · rw [l1, l2, lexAt_lexG] at z
    exact z
  · have g1 : xs[j]? = some (xs.getD j .none) := by rw [List.getD_eq_getElem?_getD, List.getElem?_eq_getElem (by omega)]; rfl
    have g2 : ys[j]? = some (ys.getD j .none) := by rw [List.getD_eq_getElem?_getD, List.getElem?_eq_getElem (by omega)]; rfl
    exact h j _ _ us[j] ws[j] g1 g2 (by simp) (by simp) hall hne
end
end
/-! Q8 -/
section
open PySem PySem.Spec PyProof.Rows PySem.SeqAt
theorem tupF_le (p q : Addr) (its jts : Array Value) (n n2 : Nat) (dd dd2 : Option Addr) (sl sl2 : Array (Option Value)) (e r : Nat → Bool) :
    Meets (Builtin.«tuple.__le__» ⟨[.ref p, .ref q], []⟩)
      (fun A R s => s.heap.get? p = some { cls := .type "tuple", dict := dd, data := .seq its n, slots := sl } ∧ s.heap.get? q = some { cls := .type "tuple", dict := dd2, data := .seq jts n2, slots := sl2 } ∧
        (∀ j (k1 : j < its.size) (k2 : j < jts.size), EqAt A.in1 s its[j] jts[j] (e j)) ∧
        (∀ j (k1 : j < its.size) (k2 : j < jts.size), (∀ k, k < j → e k = true) → e j = false → Ob.RcOp .LtE A.in1 s its[j] jts[j] (r j)) ∧
        R (.ok (.ret (.bool (Ob.lexAt e r (decide (its.size ≤ jts.size)) 0 (min its.size jts.size))))) s) :=
  .of_wp fun prog w A R s h => by
    obtain ⟨m0, gs, ds, ts, ws⟩ := s
    obtain ⟨gp, gq, he, hr, h⟩ := h
    have sub2 := AutoSeq1.sub_tuple_tuple
    have zl : (its.toList.zip jts.toList).length = min its.size jts.size := by simp
    wp_walk using wpAny_loadPart' gp, wpAny_loadPart' gq, wpAny_forIn_list _ (fun rest b s' => b.1 = none ∧ s' = ⟨m0, gs, ds, ts, ws⟩ ∧ ∃ i, (∀ k, k < i → e k = true) ∧ rest = (its.toList.zip jts.toList).drop i ∧
      R (.ok (.ret (.bool (Ob.lexAt e r (decide (its.size ≤ jts.size)) i (min its.size jts.size - i))))) ⟨m0, gs, ds, ts, ws⟩) _
    case turn =>
      rintro ⟨y, x⟩ rest b s' ⟨gb, rfl, i, hall, hz, hR⟩
      have hlt : i < (its.toList.zip jts.toList).length := by
        by_cases hh : i < (its.toList.zip jts.toList).length
        · exact hh
        · rw [List.drop_of_length_le (Nat.le_of_not_lt hh)] at hz; cases hz
      have hm : i < min its.size jts.size := zl ▸ hlt
      have k1 : i < its.size := Nat.lt_of_lt_of_le hm (Nat.min_le_left _ _)
      have k2 : i < jts.size := Nat.lt_of_lt_of_le hm (Nat.min_le_right _ _)
      rw [List.drop_eq_getElem_cons hlt] at hz
      injection hz with hyx hrest
      have ey : y = its[i] := by have := congrArg Prod.fst hyx; simpa using this
      have ex : x = jts[i] := by have := congrArg Prod.snd hyx; simpa using this
      subst ey ex
      rw [show min its.size jts.size - i = (min its.size jts.size - (i + 1)) + 1 by omega, Ob.lexAt_succ] at hR
      refine wpAny_bind (he i k1 k2 prog w _ _ ?_)
      cases hei : e i with
      | true =>
        rw [hei, if_pos rfl] at hR
        wp_walk
        refine ⟨rfl, rfl, i + 1, fun k hk => ?_, hrest, hR⟩
        by_cases hki : k = i
        · rw [hki]; exact hei
        · exact hall k (by omega)
      | false =>
        rw [hei, if_neg Bool.false_ne_true] at hR
        have go1 := hr i k1 k2 hall hei prog w
        wp_walk using go1
        exact ⟨_, rfl, by simpa using hR⟩
    case fin =>
      rintro ⟨b1, b2⟩ s' ⟨gb, rfl, i, hall, hz, hR⟩
      simp only at gb
      subst gb
      have hge : min its.size jts.size ≤ i := by
        by_cases hh : i < (its.toList.zip jts.toList).length
        · rw [List.drop_eq_getElem_cons hh] at hz; cases hz
        · rw [zl] at hh; omega
      rw [Nat.sub_eq_zero_of_le hge, Ob.lexAt_zero] at hR
      wp_walk
      exact ⟨_, rfl, by simpa [Builtin.Tuple.tupleCompareSizes] using hR⟩
    case h =>
      exact ⟨rfl, rfl, 0, fun k hk => absurd hk (by omega), rfl, by simpa using h⟩
theorem tupFR_le {A : Around} {s : Shared} {p q : Addr} {its jts : Array Value} {e r : Nat → Bool} (gp : s.heap.IsTuple p its) (gq : s.heap.IsTuple q jts) (hu : A.units < cLine)
    (he : ∀ j (k1 : j < its.size) (k2 : j < jts.size), EqAt A.in1 s its[j] jts[j] (e j))
    (hr : ∀ j (k1 : j < its.size) (k2 : j < jts.size), (∀ k, k < j → e k = true) → e j = false → Ob.RcOp .LtE A.in1 s its[j] jts[j] (r j)) :
    Ob.RcOp .LtE A s (.ref p) (.ref q) (Ob.lexAt e r (decide (its.size ≤ jts.size)) 0 (min its.size jts.size)) := fun prog w E Q h => by
  obtain ⟨⟨c1, d1, a1, s1⟩, o1, i1, n, j1⟩ := id gp
  obtain ⟨⟨c2, d2, a2, s2⟩, o2, i2, n2, j2⟩ := id gq
  simp only at i1 j1 i2 j2
  subst i1 j1 i2 j2
  exact richCompare_meets_room (op := .LtE) ⟨_, o1, rfl⟩ ⟨_, o2, rfl⟩ F.slot_tuple_le F.entry_tuple_le (F.args_tuple_le_2 _ _) (tupF_le p q its jts n n2 d1 d2 s1 s2 e r) ⟨o1, o2, he, hr, ⟨(fun x => nomatch x), h⟩⟩ hu

theorem tupF_ge (p q : Addr) (its jts : Array Value) (n n2 : Nat) (dd dd2 : Option Addr) (sl sl2 : Array (Option Value)) (e r : Nat → Bool) :
    Meets (Builtin.«tuple.__ge__» ⟨[.ref p, .ref q], []⟩)
      (fun A R s => s.heap.get? p = some { cls := .type "tuple", dict := dd, data := .seq its n, slots := sl } ∧ s.heap.get? q = some { cls := .type "tuple", dict := dd2, data := .seq jts n2, slots := sl2 } ∧
        (∀ j (k1 : j < its.size) (k2 : j < jts.size), EqAt A.in1 s its[j] jts[j] (e j)) ∧
        (∀ j (k1 : j < its.size) (k2 : j < jts.size), (∀ k, k < j → e k = true) → e j = false → Ob.RcOp .GtE A.in1 s its[j] jts[j] (r j)) ∧
        R (.ok (.ret (.bool (Ob.lexAt e r (decide (jts.size ≤ its.size)) 0 (min its.size jts.size))))) s) :=
  .of_wp fun prog w A R s h => by
    obtain ⟨m0, gs, ds, ts, ws⟩ := s
    obtain ⟨gp, gq, he, hr, h⟩ := h
    have sub2 := AutoSeq1.sub_tuple_tuple
    have zl : (its.toList.zip jts.toList).length = min its.size jts.size := by simp
    wp_walk using wpAny_loadPart' gp, wpAny_loadPart' gq, wpAny_forIn_list _ (fun rest b s' => b.1 = none ∧ s' = ⟨m0, gs, ds, ts, ws⟩ ∧ ∃ i, (∀ k, k < i → e k = true) ∧ rest = (its.toList.zip jts.toList).drop i ∧
      R (.ok (.ret (.bool (Ob.lexAt e r (decide (jts.size ≤ its.size)) i (min its.size jts.size - i))))) ⟨m0, gs, ds, ts, ws⟩) _
    case turn =>
      rintro ⟨y, x⟩ rest b s' ⟨gb, rfl, i, hall, hz, hR⟩
      have hlt : i < (its.toList.zip jts.toList).length := by
        by_cases hh : i < (its.toList.zip jts.toList).length
        · exact hh
        · rw [List.drop_of_length_le (Nat.le_of_not_lt hh)] at hz; cases hz
      have hm : i < min its.size jts.size := zl ▸ hlt
      have k1 : i < its.size := Nat.lt_of_lt_of_le hm (Nat.min_le_left _ _)
      have k2 : i < jts.size := Nat.lt_of_lt_of_le hm (Nat.min_le_right _ _)
      rw [List.drop_eq_getElem_cons hlt] at hz
      injection hz with hyx hrest
      have ey : y = its[i] := by have := congrArg Prod.fst hyx; simpa using this
      have ex : x = jts[i] := by have := congrArg Prod.snd hyx; simpa using this
      subst ey ex
      rw [show min its.size jts.size - i = (min its.size jts.size - (i + 1)) + 1 by omega, Ob.lexAt_succ] at hR
      refine wpAny_bind (he i k1 k2 prog w _ _ ?_)
      cases hei : e i with
      | true =>
        rw [hei, if_pos rfl] at hR
        wp_walk
        refine ⟨rfl, rfl, i + 1, fun k hk => ?_, hrest, hR⟩
        by_cases hki : k = i
        · rw [hki]; exact hei
        · exact hall k (by omega)
      | false =>
        rw [hei, if_neg Bool.false_ne_true] at hR
        have go1 := hr i k1 k2 hall hei prog w
        wp_walk using go1
        exact ⟨_, rfl, by simpa using hR⟩
    case fin =>
      rintro ⟨b1, b2⟩ s' ⟨gb, rfl, i, hall, hz, hR⟩
      simp only at gb
      subst gb
      have hge : min its.size jts.size ≤ i := by
        by_cases hh : i < (its.toList.zip jts.toList).length
        · rw [List.drop_eq_getElem_cons hh] at hz; cases hz
        · rw [zl] at hh; omega
      rw [Nat.sub_eq_zero_of_le hge, Ob.lexAt_zero] at hR
      wp_walk
      exact ⟨_, rfl, by simpa [Builtin.Tuple.tupleCompareSizes] using hR⟩
    case h =>
      exact ⟨rfl, rfl, 0, fun k hk => absurd hk (by omega), rfl, by simpa using h⟩
theorem tupFR_ge {A : Around} {s : Shared} {p q : Addr} {its jts : Array Value} {e r : Nat → Bool} (gp : s.heap.IsTuple p its) (gq : s.heap.IsTuple q jts) (hu : A.units < cLine)
    (he : ∀ j (k1 : j < its.size) (k2 : j < jts.size), EqAt A.in1 s its[j] jts[j] (e j))
    (hr : ∀ j (k1 : j < its.size) (k2 : j < jts.size), (∀ k, k < j → e k = true) → e j = false → Ob.RcOp .GtE A.in1 s its[j] jts[j] (r j)) :
    Ob.RcOp .GtE A s (.ref p) (.ref q) (Ob.lexAt e r (decide (jts.size ≤ its.size)) 0 (min its.size jts.size)) := fun prog w E Q h => by
  obtain ⟨⟨c1, d1, a1, s1⟩, o1, i1, n, j1⟩ := id gp
  obtain ⟨⟨c2, d2, a2, s2⟩, o2, i2, n2, j2⟩ := id gq
  simp only at i1 j1 i2 j2
  subst i1 j1 i2 j2
  exact richCompare_meets_room (op := .GtE) ⟨_, o1, rfl⟩ ⟨_, o2, rfl⟩ F.slot_tuple_ge F.entry_tuple_ge (F.args_tuple_ge_2 _ _) (tupF_ge p q its jts n n2 d1 d2 s1 s2 e r) ⟨o1, o2, he, hr, ⟨(fun x => nomatch x), h⟩⟩ hu
/-- the four orders -/
inductive Cm where
  | lt | le | gt | ge
def Cm.op : Cm → CmpOp
  | .lt => .Lt | .le => .LtE | .gt => .Gt | .ge => .GtE
def Cm.int : Cm → Int → Int → Bool
  | .lt, a, b => decide (a < b)
  | .le, a, b => decide (a ≤ b)
  | .gt, a, b => decide (b < a)
  | .ge, a, b => decide (b ≤ a)
def Cm.str : Cm → Str → Str → Bool
  | .lt, a, b => decide (a.cps.toList < b.cps.toList)
  | .le, a, b => !decide (b.cps.toList < a.cps.toList)
  | .gt, a, b => decide (b.cps.toList < a.cps.toList)
  | .ge, a, b => !decide (a.cps.toList < b.cps.toList)
/-- by the lengths alone -/
def Cm.len : Cm → Nat → Nat → Bool
  | .lt, a, b => decide (a < b)
  | .le, a, b => decide (a ≤ b)
  | .gt, a, b => decide (b < a)
  | .ge, a, b => decide (b ≤ a)
def cmpL (o : Cm) (f : PyData → PyData → Option Bool) : List PyData → List PyData → Option Bool
  | [], [] => some (o.len 0 0)
  | [], _ :: _ => some (o.len 0 1)
  | _ :: _, [] => some (o.len 1 0)
  | x :: xs, y :: ys => if PyData.eqv x y = true then cmpL o f xs ys else f x y
def cmpO (o : Cm) : Nat → PyData → PyData → Option Bool
  | _, .int a, .int b => some (o.int a b)
  | _, .str a, .str b => some (o.str a b)
  | k + 1, .tuple xs, .tuple ys => cmpL o (cmpO o k) xs ys
  | _, _, _ => none
theorem Cm.len_succ (o : Cm) (a b : Nat) : o.len (a + 1) (b + 1) = o.len a b := by cases o <;> simp [Cm.len]
theorem lexAt_cmpL (o : Cm) (f : PyData → PyData → Option Bool) : ∀ (xs ys : List PyData) (r : Bool), cmpL o f xs ys = some r →
    Ob.lexAt (fun j => PyData.eqv (xs.getD j .none) (ys.getD j .none)) (fun j => (f (xs.getD j .none) (ys.getD j .none)).getD false) (o.len xs.length ys.length) 0 (min xs.length ys.length) = r ∧
    ∀ (j : Nat), j < min xs.length ys.length → (∀ k, k < j → PyData.eqv (xs.getD k .none) (ys.getD k .none) = true) → PyData.eqv (xs.getD j .none) (ys.getD j .none) = false → ∃ b, f (xs.getD j .none) (ys.getD j .none) = some b
  | [], [], r, h => by
    simp only [cmpL, Option.some.injEq] at h
    refine ⟨?_, fun j hj => absurd hj (by simp)⟩
    rw [show min ([] : List PyData).length ([] : List PyData).length = 0 from rfl, Ob.lexAt_zero]; exact h
  | [], y :: ys, r, h => by
    simp only [cmpL, Option.some.injEq] at h
    refine ⟨?_, fun j hj => absurd hj (by simp)⟩
    rw [show min ([] : List PyData).length (y :: ys).length = 0 from Nat.zero_min _, Ob.lexAt_zero, ← h]
    cases o <;> simp [Cm.len]
  | x :: xs, [], r, h => by
    simp only [cmpL, Option.some.injEq] at h
    refine ⟨?_, fun j hj => absurd hj (by simp)⟩
    rw [show min (x :: xs).length ([] : List PyData).length = 0 from Nat.min_zero _, Ob.lexAt_zero, ← h]
    cases o <;> simp [Cm.len]
  | x :: xs, y :: ys, r, h => by
    have e : min (x :: xs).length (y :: ys).length = min xs.length ys.length + 1 := by rw [List.length_cons, List.length_cons]; omega
    rw [cmpL] at h
    by_cases hq : PyData.eqv x y = true
    · rw [if_pos hq] at h
      obtain ⟨h1, h2⟩ := lexAt_cmpL o f xs ys r h
      refine ⟨?_, fun j hj hall hne => ?_⟩
      · rw [e, Ob.lexAt_succ, lexAt_shift _ _ (fun j => PyData.eqv (xs.getD j .none) (ys.getD j .none)) (fun j => (f (xs.getD j .none) (ys.getD j .none)).getD false) _ _ 0 fun j _ => ⟨rfl, rfl⟩, List.length_cons, List.length_cons, Cm.len_succ]
        rw [if_pos (show PyData.eqv ((x :: xs).getD 0 .none) ((y :: ys).getD 0 .none) = true from hq)]
        exact h1
      · cases j with
        | zero =>
          have : PyData.eqv x y = false := hne
          rw [hq] at this; cases this
        | succ j => exact h2 j (by omega) (fun k hk => hall (k + 1) (by omega)) hne
    · rw [if_neg hq] at h
      refine ⟨?_, fun j hj hall hne => ?_⟩
      · rw [e, Ob.lexAt_succ]
        rw [if_neg (show ¬ PyData.eqv ((x :: xs).getD 0 .none) ((y :: ys).getD 0 .none) = true from hq)]
        show (f x y).getD false = r
        rw [h]; rfl
      · cases j with
        | zero => exact ⟨r, h⟩
        | succ j => exact absurd (hall 0 (Nat.succ_pos _)) hq
theorem reads_tup {h : Heap} {v : Value} {xs : List PyData} {as : List Addr} (r : Reads h v (.tuple xs) as) : ∃ p us as', v = .ref p ∧ h.IsTuple p us ∧ ReadsAll h us.toList xs as' := by
  cases r with
  | tuple e c d a => exact ⟨_, _, _, rfl, ⟨_, e, c, _, d⟩, a⟩
theorem rc_tup (o : Cm) {A : Around} {s : Shared} {p q : Addr} {its jts : Array Value} {e r : Nat → Bool} (gp : s.heap.IsTuple p its) (gq : s.heap.IsTuple q jts) (hu : A.units < cLine)
    (he : ∀ j (k1 : j < its.size) (k2 : j < jts.size), EqAt A.in1 s its[j] jts[j] (e j))
    (hr : ∀ j (k1 : j < its.size) (k2 : j < jts.size), (∀ k, k < j → e k = true) → e j = false → Ob.RcOp o.op A.in1 s its[j] jts[j] (r j)) :
    Ob.RcOp o.op A s (.ref p) (.ref q) (Ob.lexAt e r (o.len its.size jts.size) 0 (min its.size jts.size)) := by
  cases o
  · exact tupFR_lt gp gq hu he hr
  · exact tupFR_le gp gq hu he hr
  · exact tupFR_gt gp gq hu he hr
  · exact tupFR_ge gp gq hu he hr
theorem rc_cmpO (o : Cm) : ∀ (k : Nat) (da db : PyData) (A : Around) (s : Shared) (a b : Value) (as bs : List Addr) (r : Bool), Reads s.heap a da as → Reads s.heap b db bs → da.canLay0 = true → db.canLay0 = true → da.depth ≤ 64 → A.units + k + 100 < cLine →
    cmpO o k da db = some r → Ob.RcOp o.op A s a b r := by
  have base : ∀ (k : Nat) (da db : PyData) (A : Around) (s : Shared) (a b : Value) (as bs : List Addr) (r : Bool), Reads s.heap a da as → Reads s.heap b db bs → A.units + k + 100 < cLine → (∃ x y, da = .int x ∧ db = .int y ∧ r = o.int x y) ∨ (∃ x y, da = .str x ∧ db = .str y ∧ r = o.str x y) → Ob.RcOp o.op A s a b r := by
    intro k da db A s a b as bs r ra rb hu hh
    rcases hh with ⟨x, y, rfl, rfl, rfl⟩ | ⟨x, y, rfl, rfl, rfl⟩
    · have al : PySem.W.alike (.int x) (.int y) = true := by simp [PySem.W.alike]
      have hn : (PyData.int x) ≠ .none := by intro z; cases z
      have hz : A.units + min (PyData.int x).depth (PyData.int y).depth < cLine := by simp only [PyData.depth]; omega
      have e : ∀ x y : Int, PySem.W.dataLt (.int x) (.int y) = decide (x < y) := fun x y => by
        exact PySem.W.dataLt_int x y
      cases o
      · have := PySem.W.rcLt_alike (.int x) (.int y) A s a b as bs ra rb al hn hz
        rw [e] at this; exact this
      · have := PySem.W.rcLe_alike (.int x) (.int y) A s a b as bs ra rb al hn hz
        rw [e, PySem.W.cmp_not_lt] at this; exact this
      · have := PySem.W.rcGt_alike (.int x) (.int y) A s a b as bs ra rb al hn hz
        rw [e] at this; exact this
      · have := PySem.W.rcGe_alike (.int x) (.int y) A s a b as bs ra rb al hn hz
        rw [e, PySem.W.cmp_not_lt] at this; exact this
    · have al : PySem.W.alike (.str x) (.str y) = true := by simp [PySem.W.alike]
      have hn : (PyData.str x) ≠ .none := by intro z; cases z
      have hz : A.units + min (PyData.str x).depth (PyData.str y).depth < cLine := by simp only [PyData.depth]; omega
      cases o
      · have := PySem.W.rcLt_alike (.str x) (.str y) A s a b as bs ra rb al hn hz
        rw [PySem.W.dataLt_str] at this; exact this
      · have := PySem.W.rcLe_alike (.str x) (.str y) A s a b as bs ra rb al hn hz
        rw [PySem.W.dataLt_str] at this; exact this
      · have := PySem.W.rcGt_alike (.str x) (.str y) A s a b as bs ra rb al hn hz
        rw [PySem.W.dataLt_str] at this; exact this
      · have := PySem.W.rcGe_alike (.str x) (.str y) A s a b as bs ra rb al hn hz
        rw [PySem.W.dataLt_str] at this; exact this
  intro k
  induction k with
  | zero =>
    intro da db A s a b as bs r ra rb la lb hd hu h
    refine base 0 da db A s a b as bs r ra rb hu ?_
    unfold cmpO at h
    split at h
    · cases h; exact .inl ⟨_, _, rfl, rfl, rfl⟩
    · cases h; exact .inr ⟨_, _, rfl, rfl, rfl⟩
    · cases ‹0 = _ + 1›
    · cases h
  | succ k ih =>
    intro da db A s a b as bs r ra rb la lb hd hu h
    unfold cmpO at h
    split at h
    · cases h; exact base 0 _ _ A s a b as bs _ ra rb (by omega) (.inl ⟨_, _, rfl, rfl, rfl⟩)
    · cases h; exact base 0 _ _ A s a b as bs _ ra rb (by omega) (.inr ⟨_, _, rfl, rfl, rfl⟩)
    · rename_i k' xs ys hk
      cases hk
      obtain ⟨h1, h2⟩ := lexAt_cmpL o _ xs ys r h
      obtain ⟨p, us, as', rfl, gp, ra'⟩ := reads_tup ra
      obtain ⟨q, ws, bs', rfl, gq, rb'⟩ := reads_tup rb
      have l1 : us.size = xs.length := by rw [← Array.length_toList]; exact SeqAt.ReadsAll.length _ _ _ ra'
      have l2 : ws.size = ys.length := by rw [← Array.length_toList]; exact SeqAt.ReadsAll.length _ _ _ rb'
      have ha : PyData.canLayAll0 xs = true := by simpa only [PyData.canLay0] using la
      have hb : PyData.canLayAll0 ys = true := by simpa only [PyData.canLay0] using lb
      have hd' : PyData.depthAll xs ≤ 64 := by simp only [PyData.depth] at hd; omega
      have eu : A.in1.units = A.units + 1 := rfl
      have z := rc_tup o (A := A) (e := fun j => PyData.eqv (xs.getD j .none) (ys.getD j .none)) (r := fun j => (cmpO o k (xs.getD j .none) (ys.getD j .none)).getD false) gp gq (by omega) (fun j k1 k2 => items_eqAt2 ra' rb' ha hb (by omega) hd' j k1 k2) (fun j k1 k2 hall hne => ?_)
      · rw [l1, l2, h1] at z
        exact z
      · obtain ⟨b', hb'⟩ := h2 j (by omega) hall hne
        obtain ⟨c1, r1, m1, n1, d1⟩ := PySem.W.readsAll_atA ra' j us[j] (by simp)
        obtain ⟨c2, r2, m2, n2, d2⟩ := PySem.W.readsAll_atA rb' j ws[j] (by simp)
        show Ob.RcOp o.op A.in1 s us[j] ws[j] ((cmpO o k (xs.getD j .none) (ys.getD j .none)).getD false)
        rw [hb']
        exact ih _ _ A.in1 s _ _ _ _ b' r1 r2 (PyData.canLay0_of_mem xs _ ha n1) (PyData.canLay0_of_mem ys _ hb n2) (by omega) (by omega) hb'
    · cases h
end
/-! N0 -/
section
open PySem PySem.Spec PyProof.Rows
/-- a plain value: trees that never change, and references to cells of the store -/
inductive P where
  | non
  | bl (b : Bool)
  | int (i : Int)
  | str (x : Str)
  | ty (n : String)
  | cls (c : Str)
  | tup (xs : List P)
  | lst (xs : List P)
  | xls (xs : List P)
  | dK (kvs : List (Key × P))
  | dT (kvs : List (List Key × P))
  | obj (C : Str) (fs : List (Str × P))
  | cell (n : Nat)
  deriving Inhabited
inductive Cell where
  | lst (xs : List P)
  | dK (kvs : List (Key × P))
  | dT (kvs : List (List Key × P))
  | ins (C : Str) (fs : List (Str × P))
  deriving Inhabited
abbrev M := List Cell
abbrev Env := List (Option P)
inductive Res (β : Type) where
  | ok (d : β) (m : M)
  | exc (c : Str) (fs : List (Str × P)) (m : M)
  | stuck
inductive Out where
  | nx (ρ : Env) (m : M)
  | rt (d : P) (m : M)
  | bk (ρ : Env) (m : M)
  | ct (ρ : Env) (m : M)
  | exc (c : Str) (fs : List (Str × P)) (ρ : Env) (m : M)
  | stuck
def Res.bind {β δ : Type} (r : Res β) (k : β → M → Res δ) : Res δ := match r with
  | .ok d m => k d m
  | .exc c fs m => .exc c fs m
  | .stuck => .stuck
def Res.outs {β : Type} (r : Res β) (ρ : Env) (k : β → M → Out) : Out := match r with
  | .ok d m => k d m
  | .exc c fs m => .exc c fs ρ m
  | .stuck => .stuck
abbrev FE := Env → M → Res P
abbrev FA := Env → M → Res (List P)
abbrev FT := Env → M → Res Bool
abbrev FS := Env → M → Out
abbrev FG := P → Env → M → Option Env
abbrev FN := List P → M → Res P

section
variable (K : PySem.W.Frag) (F : Addr → Prop) (α : List Addr) (H : Hp)
mutual
inductive Rp : P → V → Prop
  | non : Rp .non .non
  | bl (b : Bool) : Rp (.bl b) (.bl b)
  | int (i : Int) : Rp (.int i) (.int i)
  | str (x : Str) : Rp (.str x) (.str x)
  | ty (n : String) : Rp (.ty n) (.ty n)
  | cls (c : Str) : Rp (.cls c) (.ref (He.ga K c))
  | tup {a : Addr} {xs : List P} {vs : List V} : F a → H a = some (.tup vs) → Rps xs vs → Rp (.tup xs) (.ref a)
  | lst {a : Addr} {xs : List P} {vs : List V} : F a → H a = some (.lst vs) → Rps xs vs → Rp (.lst xs) (.ref a)
  | xls {a : Addr} {xs : List P} {vs : List V} : ((F a ∧ Rd H a (.lst vs)) ∨ ∀ H1, SqL K H1 a vs) → Rps xs vs → Rp (.xls xs) (.ref a)
  | dK {a : Addr} {kvs : List (Key × P)} {ws : List (Key × V)} : F a → H a = some (.dK ws) → kvs.map (·.1) = ws.map (·.1) → Rps (kvs.map (·.2)) (ws.map (·.2)) → Rp (.dK kvs) (.ref a)
  | dT {a : Addr} {kvs : List (List Key × P)} {ws : List (List Key × V)} : F a → H a = some (.dT ws) → kvs.map (·.1) = ws.map (·.1) → Rps (kvs.map (·.2)) (ws.map (·.2)) → Rp (.dT kvs) (.ref a)
  | obj {a dx : Addr} {C : Str} {fs : List (Str × P)} {ws : List (Str × V)} : F a → H a = some (.ins (He.ga K C) dx ws) → fs.map (·.1) = ws.map (·.1) → Rps (fs.map (·.2)) (ws.map (·.2)) → Rp (.obj C fs) (.ref a)
  | cell {n : Nat} {a : Addr} : α[n]? = some a → Rp (.cell n) (.ref a)
inductive Rps : List P → List V → Prop
  | nil : Rps [] []
  | cons {d : P} {ds : List P} {v : V} {vs : List V} : Rp d v → Rps ds vs → Rps (d :: ds) (v :: vs)
end
def CellR : Cell → HO → Prop
  | .lst xs, .lst vs => Rps K F α H xs vs
  | .dK kvs, .dK ws => kvs.map (·.1) = ws.map (·.1) ∧ Rps K F α H (kvs.map (·.2)) (ws.map (·.2))
  | .dT kvs, .dT ws => kvs.map (·.1) = ws.map (·.1) ∧ Rps K F α H (kvs.map (·.2)) (ws.map (·.2))
  | .ins C fs, .ins C' _ ws => C' = He.ga K C ∧ fs.map (·.1) = ws.map (·.1) ∧ Rps K F α H (fs.map (·.2)) (ws.map (·.2))
  | _, _ => False
def EnvR (ρ : Env) (σ : St) : Prop := ρ.length = σ.length ∧ ∀ (i : Nat) (d : P), ρ[i]? = some (some d) → ∃ v, σ[i]? = some (some v) ∧ Rp K F α H d v
end
/-- the store is laid out in the heap -/
structure Wk (K : PySem.W.Frag) (F : Addr → Prop) (α : List Addr) (m : M) (H : Hp) : Prop where
  len : α.length = m.length
  nd : α.Nodup
  nf : ∀ a, a ∈ α → ¬ F a
  fr : ∀ a, F a → ∃ o, H a = some o
  at_ : ∀ (n : Nat) (c : Cell) (a : Addr), m[n]? = some c → α[n]? = some a → ∃ o, H a = some o ∧ CellR K F α H c o
/-- how the heap may go on -/
structure Ex (F : Addr → Prop) (α : List Addr) (H : Hp) (F' : Addr → Prop) (α' : List Addr) (H' : Hp) : Prop where
  f : ∀ a, F a → F' a
  al : ∃ l, α' = α ++ l
  k : ∀ a o, H a = some o → a ∉ α → H' a = some o
  new : ∀ a, a ∈ α' → a ∉ α → H a = none
  fn : ∀ a o, F' a → H a = some o → a ∉ α → F a
/-- what trees and references lean on stays -/
structure Sub (F : Addr → Prop) (α : List Addr) (H : Hp) (F' : Addr → Prop) (α' : List Addr) (H' : Hp) : Prop where
  f : ∀ a, F a → F' a
  al : ∀ (n : Nat) (a : Addr), α[n]? = some a → α'[n]? = some a
  k : ∀ a o, F a → H a = some o → H' a = some o

section
variable {K : PySem.W.Frag} {F F' F'' : Addr → Prop} {α α' α'' : List Addr} {H H' H'' : Hp} {m m' : M}
theorem Ex.refl : Ex F α H F α H := ⟨fun _ h => h, ⟨[], (List.append_nil _).symm⟩, fun _ _ e _ => e, fun _ h n => absurd h n, fun _ _ h _ _ => h⟩
theorem Ex.trans (a : Ex F α H F' α' H') (b : Ex F' α' H' F'' α'' H'') : Ex F α H F'' α'' H'' := by
  refine ⟨fun x h => b.f x (a.f x h), ?_, fun x o e n => ?_, fun x hx n => ?_, fun x o hf e n => a.fn x o (b.fn x o hf (a.k x o e n) fun hx => by have := a.new x hx n; rw [e] at this; cases this) e n⟩
  · obtain ⟨l, rfl⟩ := a.al
    obtain ⟨l', rfl⟩ := b.al
    exact ⟨l ++ l', List.append_assoc _ _ _⟩
  · refine b.k x o (a.k x o e n) fun hx => ?_
    have := a.new x hx n
    rw [e] at this; cases this
  · by_cases h1 : x ∈ α'
    · exact a.new x h1 n
    · have h2 := b.new x hx h1
      cases e : H x with
      | none => rfl
      | some o => rw [a.k x o e n] at h2; cases h2
theorem Rd.some {a : Addr} {u : HO} (r : Rd H a u) : ∃ o, H a = some o := by
  rcases r with r | ⟨o, r⟩
  · exact ⟨_, r⟩
  · exact ⟨_, r⟩
theorem al_get {n : Nat} {a : Addr} (h : α[n]? = some a) (e : Ex F α H F' α' H') : α'[n]? = some a := by
  obtain ⟨l, rfl⟩ := e.al
  rw [List.getElem?_append_left (List.getElem?_eq_some_iff.mp h).1]
  exact h
theorem Ex.sub (nf : ∀ a, a ∈ α → ¬ F a) (e : Ex F α H F' α' H') : Sub F α H F' α' H' := ⟨e.f, fun n a h => al_get h e, fun a o h1 h2 => e.k a o h2 fun n => nf a n h1⟩
mutual
theorem Rp.sub (e : Sub F α H F' α' H') : ∀ {d : P} {v : V}, Rp K F α H d v → Rp K F' α' H' d v
  | _, _, .non => .non
  | _, _, .bl b => .bl b
  | _, _, .int i => .int i
  | _, _, .str x => .str x
  | _, _, .ty n => .ty n
  | _, _, .cls c => .cls c
  | _, _, .tup h1 h2 h3 => .tup (e.f _ h1) (e.k _ _ h1 h2) (Rps.sub e h3)
  | _, _, .lst h1 h2 h3 => .lst (e.f _ h1) (e.k _ _ h1 h2) (Rps.sub e h3)
  | _, _, .xls h1 h3 => .xls (h1.imp (fun h => ⟨e.f _ h.1, h.2.imp (fun r => e.k _ _ h.1 r) fun ⟨o, r⟩ => ⟨o, e.k _ _ h.1 r⟩⟩) id) (Rps.sub e h3)
  | _, _, .dK h1 h2 h3 h4 => .dK (e.f _ h1) (e.k _ _ h1 h2) h3 (Rps.sub e h4)
  | _, _, .dT h1 h2 h3 h4 => .dT (e.f _ h1) (e.k _ _ h1 h2) h3 (Rps.sub e h4)
  | _, _, .obj h1 h2 h3 h4 => .obj (e.f _ h1) (e.k _ _ h1 h2) h3 (Rps.sub e h4)
  | _, _, .cell h => .cell (e.al _ _ h)
theorem Rps.sub (e : Sub F α H F' α' H') : ∀ {d : List P} {v : List V}, Rps K F α H d v → Rps K F' α' H' d v
  | _, _, .nil => .nil
  | _, _, .cons h t => .cons (Rp.sub e h) (Rps.sub e t)
end
theorem CellR.sub (e : Sub F α H F' α' H') {c : Cell} {o : HO} (h : CellR K F α H c o) : CellR K F' α' H' c o := by
  cases c <;> cases o <;> first | exact h.elim | skip
  · exact Rps.sub e h
  · exact ⟨h.1, Rps.sub e h.2⟩
  · exact ⟨h.1, Rps.sub e h.2⟩
  · exact ⟨h.1, h.2.1, Rps.sub e h.2.2⟩
theorem EnvR.sub (e : Sub F α H F' α' H') {ρ : Env} {σ : St} (h : EnvR K F α H ρ σ) : EnvR K F' α' H' ρ σ :=
  ⟨h.1, fun i d hd => let ⟨v, h1, h2⟩ := h.2 i d hd; ⟨v, h1, h2.sub e⟩⟩
theorem Rp.mono (nf : ∀ a, a ∈ α → ¬ F a) (e : Ex F α H F' α' H') {d : P} {v : V} (h : Rp K F α H d v) : Rp K F' α' H' d v := h.sub (e.sub nf)
theorem Rps.mono (nf : ∀ a, a ∈ α → ¬ F a) (e : Ex F α H F' α' H') {d : List P} {v : List V} (h : Rps K F α H d v) : Rps K F' α' H' d v := h.sub (e.sub nf)
theorem CellR.mono (nf : ∀ a, a ∈ α → ¬ F a) (e : Ex F α H F' α' H') {c : Cell} {o : HO} (h : CellR K F α H c o) : CellR K F' α' H' c o := h.sub (e.sub nf)
theorem EnvR.mono (nf : ∀ a, a ∈ α → ¬ F a) (e : Ex F α H F' α' H') {ρ : Env} {σ : St} (h : EnvR K F α H ρ σ) : EnvR K F' α' H' ρ σ := h.sub (e.sub nf)
theorem Rps.length : ∀ {d : List P} {v : List V}, Rps K F α H d v → d.length = v.length
  | _, _, .nil => rfl
  | _, _, .cons _ t => congrArg (· + 1) (Rps.length t)
theorem Rps.append : ∀ {d e : List P} {v w : List V}, Rps K F α H d v → Rps K F α H e w → Rps K F α H (d ++ e) (v ++ w)
  | _, _, _, _, .nil, h => h
  | _, _, _, _, .cons h t, h' => .cons h (Rps.append t h')
theorem Rps.get : ∀ {d : List P} {v : List V} {i : Nat} {x : P}, Rps K F α H d v → d[i]? = some x → ∃ w, v[i]? = some w ∧ Rp K F α H x w
  | _, _, _, _, .nil, e => by simp at e
  | _, _, 0, _, .cons h t, e => by
    rw [List.getElem?_cons_zero] at e; cases e
    exact ⟨_, rfl, h⟩
  | _, _, i + 1, x, .cons h t, e => by
    obtain ⟨w, h1, h2⟩ := Rps.get (i := i) (x := x) t (by simpa using e)
    exact ⟨w, by simpa using h1, h2⟩
theorem Rps.getv : ∀ {d : List P} {v : List V} {i : Nat} {w : V}, Rps K F α H d v → v[i]? = some w → ∃ x, d[i]? = some x ∧ Rp K F α H x w
  | _, _, _, _, .nil, e => by simp at e
  | _, _, 0, _, .cons h t, e => by
    rw [List.getElem?_cons_zero] at e; cases e
    exact ⟨_, rfl, h⟩
  | _, _, i + 1, x, .cons h t, e => by
    obtain ⟨w, h1, h2⟩ := Rps.getv (i := i) (w := x) t (by simpa using e)
    exact ⟨w, by simpa using h1, h2⟩
theorem Rps.set {x : P} {w : V} (r : Rp K F α H x w) : ∀ {d : List P} {v : List V} (i : Nat), Rps K F α H d v → Rps K F α H (d.set i x) (v.set i w)
  | _, _, _, .nil => .nil
  | _, _, 0, .cons h t => .cons r t
  | _, _, i + 1, .cons h t => .cons h (Rps.set r i t)
theorem Rps.take : ∀ {d : List P} {v : List V} (n : Nat), Rps K F α H d v → Rps K F α H (d.take n) (v.take n)
  | _, _, 0, _ => .nil
  | _, _, n + 1, .nil => .nil
  | _, _, n + 1, .cons h t => .cons h (Rps.take n t)
theorem Rps.drop : ∀ {d : List P} {v : List V} (n : Nat), Rps K F α H d v → Rps K F α H (d.drop n) (v.drop n)
  | _, _, 0, h => h
  | _, _, n + 1, .nil => .nil
  | _, _, n + 1, .cons h t => Rps.drop n t
theorem Rps.one {x : P} {w : V} (r : Rp K F α H x w) : Rps K F α H [x] [w] := .cons r .nil
theorem Rps.reverse : ∀ {d : List P} {v : List V}, Rps K F α H d v → Rps K F α H d.reverse v.reverse
  | _, _, .nil => .nil
  | _, _, .cons h t => by rw [List.reverse_cons, List.reverse_cons]; exact (Rps.reverse t).append (.one h)
theorem Rps.replicate {x : P} {w : V} (r : Rp K F α H x w) : ∀ n, Rps K F α H (List.replicate n x) (List.replicate n w)
  | 0 => .nil
  | n + 1 => .cons r (Rps.replicate r n)
theorem Rps.ints (l : List Int) : Rps K F α H (l.map P.int) (l.map V.int) := by
  induction l with
  | nil => exact .nil
  | cons a l ih => exact .cons (.int a) ih
/-! ### the store grows, changes -/
theorem Wk.fz (W : Wk K F α m H) {p : Addr} {o : HO} (h : H p = none) : Ex F α H (fun a => F a ∨ a = p) α (upd H p o) ∧ Wk K (fun a => F a ∨ a = p) α m (upd H p o) := by
  have e : Ex F α H (fun a => F a ∨ a = p) α (upd H p o) := ⟨fun _ h => .inl h, ⟨[], (List.append_nil _).symm⟩, fun a u e _ => by rw [upd_ne (ne_of_none e h)]; exact e, fun _ h n => absurd h n, fun a o hf ho _ => hf.elim id fun q => by rw [q, h] at ho; cases ho⟩
  have np : ∀ a, a ∈ α → a ≠ p := fun a ha => by
    obtain ⟨n, hn⟩ := List.getElem?_of_mem ha
    have hl := (List.getElem?_eq_some_iff.mp hn).1
    rw [W.len] at hl
    obtain ⟨o, ho, _⟩ := W.at_ n _ a (List.getElem?_eq_getElem hl) hn
    exact ne_of_none ho h
  refine ⟨e, W.len, W.nd, fun a ha hf => ?_, fun a hf => ?_, fun n c a hn ha => ?_⟩
  · rcases hf with hf | hf
    · exact W.nf a ha hf
    · exact np a ha hf
  · rcases hf with hf | hf
    · obtain ⟨o', ho⟩ := W.fr a hf
      exact ⟨o', by rw [upd_ne (ne_of_none ho h)]; exact ho⟩
    · subst hf; exact ⟨_, upd_same⟩
  · obtain ⟨o', ho, hc⟩ := W.at_ n c a hn ha
    exact ⟨o', by rw [upd_ne (ne_of_none ho h)]; exact ho, hc.mono W.nf e⟩
theorem Wk.has (W : Wk K F α m H) {a : Addr} (ha : a ∈ α) : ∃ (n : Nat) (c : Cell) (o : HO), m[n]? = some c ∧ α[n]? = some a ∧ H a = some o ∧ CellR K F α H c o := by
  obtain ⟨n, hn⟩ := List.getElem?_of_mem ha
  have hl := (List.getElem?_eq_some_iff.mp hn).1
  rw [W.len] at hl
  obtain ⟨o, ho, hc⟩ := W.at_ n _ a (List.getElem?_eq_getElem hl) hn
  exact ⟨n, _, o, List.getElem?_eq_getElem hl, hn, ho, hc⟩
theorem Wk.add (W : Wk K F α m H) {p : Addr} {o : HO} {c : Cell} (h : H p = none) (hc : CellR K F α H c o) : Ex F α H F (α ++ [p]) (upd H p o) ∧ Wk K F (α ++ [p]) (m ++ [c]) (upd H p o) := by
  have e : Ex F α H F (α ++ [p]) (upd H p o) := ⟨fun _ h => h, ⟨[p], rfl⟩, fun a u e _ => by rw [upd_ne (ne_of_none e h)]; exact e, fun a ha n => by
    rcases List.mem_append.mp ha with q | q
    · exact absurd q n
    · rw [List.mem_singleton.mp q]; exact h, fun _ _ h _ _ => h⟩
  refine ⟨e, by rw [List.length_append, List.length_append, W.len]; rfl, ?_, fun a ha hf => ?_, fun a hf => ?_, fun n c' a hn ha => ?_⟩
  · rw [List.nodup_append]
    refine ⟨W.nd, List.nodup_cons.mpr ⟨List.not_mem_nil, List.nodup_nil⟩, fun a ha b hb => ?_⟩
    obtain ⟨_, _, o, _, _, ho, _⟩ := W.has ha
    rw [List.mem_singleton.mp hb]
    exact ne_of_none ho h
  · rcases List.mem_append.mp ha with q | q
    · exact W.nf a q hf
    · obtain ⟨o, ho⟩ := W.fr a hf
      rw [List.mem_singleton.mp q, h] at ho; cases ho
  · obtain ⟨o', ho⟩ := W.fr a hf
    exact ⟨o', by rw [upd_ne (ne_of_none ho h)]; exact ho⟩
  · by_cases hl : n < m.length
    · rw [List.getElem?_append_left hl] at hn
      rw [List.getElem?_append_left (by rw [W.len]; exact hl)] at ha
      obtain ⟨o', ho, hc'⟩ := W.at_ n c' a hn ha
      exact ⟨o', by rw [upd_ne (ne_of_none ho h)]; exact ho, hc'.mono W.nf e⟩
    · rw [List.getElem?_append_right (by omega)] at hn
      rw [List.getElem?_append_right (by rw [W.len]; omega), W.len] at ha
      cases hk : n - m.length with
      | zero =>
        rw [hk] at hn ha
        cases hn; cases ha
        exact ⟨o, upd_same, hc.mono W.nf e⟩
      | succ k => rw [hk] at hn; cases hn
theorem Wk.put (W : Wk K F α m H) {n : Nat} {a : Addr} {o : HO} {c : Cell} (h : α[n]? = some a) (hc : CellR K F α H c o) : Ex F α H F α (upd H a o) ∧ Wk K F α (m.set n c) (upd H a o) := by
  have ha : a ∈ α := List.mem_of_getElem? h
  have e : Ex F α H F α (upd H a o) := ⟨fun _ h => h, ⟨[], (List.append_nil _).symm⟩, fun b u e nb => by rw [upd_ne (fun q => nb (by rw [q]; exact ha))]; exact e, fun _ h n => absurd h n, fun _ _ h _ _ => h⟩
  refine ⟨e, by rw [List.length_set, W.len], W.nd, W.nf, fun b hf => ?_, fun k c' b hk hb => ?_⟩
  · obtain ⟨o', ho⟩ := W.fr b hf
    exact ⟨o', by rw [upd_ne (fun q => W.nf a ha (by rw [← q]; exact hf))]; exact ho⟩
  · by_cases hkn : k = n
    · subst hkn
      rw [h] at hb; cases hb
      have hl : k < m.length := by rw [← W.len]; exact (List.getElem?_eq_some_iff.mp h).1
      rw [List.getElem?_set_self hl] at hk; cases hk
      exact ⟨o, upd_same, hc.mono W.nf e⟩
    · rw [List.getElem?_set_ne (fun q => hkn q.symm)] at hk
      obtain ⟨o', ho, hc'⟩ := W.at_ k c' b hk hb
      refine ⟨o', ?_, hc'.mono W.nf e⟩
      rw [upd_ne (fun q => hkn ?_)]
      · exact ho
      · subst q
        obtain ⟨h1, e1⟩ := List.getElem?_eq_some_iff.mp hb
        obtain ⟨h2, e2⟩ := List.getElem?_eq_some_iff.mp h
        exact (List.getElem_inj W.nd).mp (e1.trans e2.symm)
/-- a thing apart is written -/
theorem Wk.apart (W : Wk K F α m H) {D : Addr} {o : HO} (h1 : ¬ F D) (h2 : D ∉ α) : Sub F α H F α (upd H D o) ∧ Wk K F α m (upd H D o) := by
  have e : Sub F α H F α (upd H D o) := ⟨fun _ h => h, fun _ _ h => h, fun a u hf hu => by rw [upd_ne (fun q => h1 (by rw [← q]; exact hf))]; exact hu⟩
  refine ⟨e, W.len, W.nd, W.nf, fun a h => ?_, fun n c a hn ha => ?_⟩
  · obtain ⟨u, hu⟩ := W.fr a h
    exact ⟨u, e.k a u h hu⟩
  · obtain ⟨u, hu, hc⟩ := W.at_ n c a hn ha
    exact ⟨u, by rw [upd_ne (fun q => h2 (by rw [← q]; exact List.mem_of_getElem? ha))]; exact hu, hc.sub e⟩
end
end
/-! N1 -/
section
open PySem PySem.Spec PyProof.Rows
section
variable (K : PySem.W.Frag)
def ExcD (F : Addr → Prop) (α : List Addr) (H : Hp) (fs : List (Str × P)) : Option Addr → Prop
  | none => fs = []
  | some d => F d ∧ ∃ ws, H d = some (.xd ws) ∧ fs.map (·.1) = ws.map (·.1) ∧ Rps K F α H (fs.map (·.2)) (ws.map (·.2))
def Post {β γ : Type} (RR : (Addr → Prop) → List Addr → Hp → β → γ → Prop) (r : Res β) (F : Addr → Prop) (α : List Addr) (H : Hp) (Q : γ → Hp → Prop) (E : XK) : Prop := match r with
  | .ok d m => ∀ v F' α' H', Ex F α H F' α' H' → Wk K F' α' m H' → RR F' α' H' d v → Q v H'
  | .exc c fs m => ∀ F' α' H' dd, Ex F α H F' α' H' → Wk K F' α' m H' → ExcD K F' α' H' fs dd → E (.ref (He.ga K c)) dd H'
  | .stuck => False
def PostS (o : Out) (F : Addr → Prop) (α : List Addr) (H : Hp) (D : Ends) (E : St → XK) : Prop := match o with
  | .nx ρ m => ∀ σ F' α' H', Ex F α H F' α' H' → Wk K F' α' m H' → EnvR K F' α' H' ρ σ → D.nx σ H'
  | .rt d m => ∀ v F' α' H', Ex F α H F' α' H' → Wk K F' α' m H' → Rp K F' α' H' d v → D.rt v H'
  | .bk ρ m => ∀ σ F' α' H', Ex F α H F' α' H' → Wk K F' α' m H' → EnvR K F' α' H' ρ σ → D.bk σ H'
  | .ct ρ m => ∀ σ F' α' H', Ex F α H F' α' H' → Wk K F' α' m H' → EnvR K F' α' H' ρ σ → D.ct σ H'
  | .exc c fs ρ m => ∀ σ F' α' H' dd, Ex F α H F' α' H' → Wk K F' α' m H' → EnvR K F' α' H' ρ σ → ExcD K F' α' H' fs dd → E σ (.ref (He.ga K c)) dd H'
  | .stuck => False
abbrev VR : (Addr → Prop) → List Addr → Hp → P → V → Prop := fun F α H => Rp K F α H
abbrev LR : (Addr → Prop) → List Addr → Hp → List P → List V → Prop := fun F α H => Rps K F α H
abbrev BR : (Addr → Prop) → List Addr → Hp → Bool → Bool → Prop := fun _ _ _ b c => b = c
def tP (E : St → XK) (f : FE) : TE := fun σ H Q => ∃ ρ m F α, Wk K F α m H ∧ EnvR K F α H ρ σ ∧ Post K (VR K) (f ρ m) F α H Q (E σ)
def tA (E : St → XK) (f : FA) : TA := fun σ H Q => ∃ ρ m F α, Wk K F α m H ∧ EnvR K F α H ρ σ ∧ Post K (LR K) (f ρ m) F α H Q (E σ)
def tT (E : St → XK) (f : FT) : TT := fun σ H Q => ∃ ρ m F α, Wk K F α m H ∧ EnvR K F α H ρ σ ∧ Post K BR (f ρ m) F α H Q (E σ)
def tS (E : St → XK) (f : FS) : TS := fun D σ H => ∃ ρ m F α, Wk K F α m H ∧ EnvR K F α H ρ σ ∧ PostS K (f ρ m) F α H D E
end
section
variable {K : PySem.W.Frag} {F F' : Addr → Prop} {α α' : List Addr} {H H' : Hp} {m m' : M} {ρ ρ' : Env} {σ σ' : St} {Q : VK} {E : XK} {Ex' : St → XK} {D : Ends}
theorem Post.mono {β γ : Type} {RR : (Addr → Prop) → List Addr → Hp → β → γ → Prop} {Q : γ → Hp → Prop} {r : Res β} (h : Post K RR r F α H Q E) (e : Ex F α H F' α' H') : Post K RR r F' α' H' Q E := by
  cases r with
  | ok d m => exact fun v F2 α2 H2 e2 => h v F2 α2 H2 (e.trans e2)
  | exc c fs m => exact fun F2 α2 H2 dd e2 => h F2 α2 H2 dd (e.trans e2)
  | stuck => exact h
theorem PostS.mono {o : Out} (h : PostS K o F α H D Ex') (e : Ex F α H F' α' H') : PostS K o F' α' H' D Ex' := by
  cases o with
  | nx => exact fun v F2 α2 H2 e2 => h v F2 α2 H2 (e.trans e2)
  | rt => exact fun v F2 α2 H2 e2 => h v F2 α2 H2 (e.trans e2)
  | bk => exact fun v F2 α2 H2 e2 => h v F2 α2 H2 (e.trans e2)
  | ct => exact fun v F2 α2 H2 e2 => h v F2 α2 H2 (e.trans e2)
  | exc c fs m => exact fun v F2 α2 H2 dd e2 => h v F2 α2 H2 dd (e.trans e2)
  | stuck => exact h
theorem Post.here {β γ : Type} {RR : (Addr → Prop) → List Addr → Hp → β → γ → Prop} {Q : γ → Hp → Prop} {d : β} {v : γ} (h : Post K RR (.ok d m) F α H Q E) (W : Wk K F α m H) (r : RR F α H d v) : Q v H := h v F α H Ex.refl W r
/-- behind a new thing -/
theorem Post.fz {d : P} {p : Addr} {o : HO} (h : Post K (VR K) (.ok d m) F α H Q E) (W : Wk K F α m H) (hp : H p = none) (r : Ex F α H (fun a => F a ∨ a = p) α (upd H p o) → Rp K (fun a => F a ∨ a = p) α (upd H p o) d (.ref p)) : Q (.ref p) (upd H p o) :=
  h _ _ _ _ (W.fz hp).1 (W.fz hp).2 (r (W.fz hp).1)
/-- one after another -/
theorem Post.bind {β δ γ γ' : Type} {RR : (Addr → Prop) → List Addr → Hp → β → γ → Prop} {R2 : (Addr → Prop) → List Addr → Hp → δ → γ' → Prop} {Q : γ' → Hp → Prop} {G : γ → Hp → Prop} {r : Res β} {k : β → M → Res δ}
    (h : Post K R2 (r.bind k) F α H Q E) (hk : ∀ d m1 F1 α1 H1 x, Ex F α H F1 α1 H1 → Wk K F1 α1 m1 H1 → RR F1 α1 H1 d x → Post K R2 (k d m1) F1 α1 H1 Q E → G x H1) : Post K RR r F α H G E := by
  cases r with
  | ok d m => exact fun v F' α' H' e W R => hk d m F' α' H' v e W R (h.mono e)
  | exc c fs m => exact h
  | stuck => exact h
theorem Post.outs {β γ : Type} {RR : (Addr → Prop) → List Addr → Hp → β → γ → Prop} {G : γ → Hp → Prop} {r : Res β} {k : β → M → Out} (W : Wk K F α m H) (R : EnvR K F α H ρ σ)
    (h : PostS K (r.outs ρ k) F α H D Ex') (hk : ∀ d m1 F1 α1 H1 x, Ex F α H F1 α1 H1 → Wk K F1 α1 m1 H1 → EnvR K F1 α1 H1 ρ σ → RR F1 α1 H1 d x → PostS K (k d m1) F1 α1 H1 D Ex' → G x H1) : Post K RR r F α H G (Ex' σ) := by
  cases r with
  | ok d m => exact fun v F' α' H' e W' R' => hk d m F' α' H' v e W' (R.mono W.nf e) R' (h.mono e)
  | exc c fs m => exact fun F' α' H' dd e W' x => h σ F' α' H' dd e W' (R.mono W.nf e) x
  | stuck => exact h
/-- the same, as a reading -/
theorem tP_bind {β γ : Type} {RR : (Addr → Prop) → List Addr → Hp → β → γ → Prop} {Q : γ → Hp → Prop} {f : FE} {k : P → M → Res β} {G : VK} (W : Wk K F α m H) (R : EnvR K F α H ρ σ) (h : Post K RR ((f ρ m).bind k) F α H Q (Ex' σ))
    (hk : ∀ d m1 F1 α1 H1 x, Ex F α H F1 α1 H1 → Wk K F1 α1 m1 H1 → EnvR K F1 α1 H1 ρ σ → Rp K F1 α1 H1 d x → Post K RR (k d m1) F1 α1 H1 Q (Ex' σ) → G x H1) : tP K Ex' f σ H G :=
  ⟨ρ, m, F, α, W, R, Post.bind h fun d m1 F1 α1 H1 x e W1 r p => hk d m1 F1 α1 H1 x e W1 (R.mono W.nf e) r p⟩
theorem tA_bind {β γ : Type} {RR : (Addr → Prop) → List Addr → Hp → β → γ → Prop} {Q : γ → Hp → Prop} {f : FA} {k : List P → M → Res β} {G : List V → Hp → Prop} (W : Wk K F α m H) (R : EnvR K F α H ρ σ) (h : Post K RR ((f ρ m).bind k) F α H Q (Ex' σ))
    (hk : ∀ d m1 F1 α1 H1 x, Ex F α H F1 α1 H1 → Wk K F1 α1 m1 H1 → EnvR K F1 α1 H1 ρ σ → Rps K F1 α1 H1 d x → Post K RR (k d m1) F1 α1 H1 Q (Ex' σ) → G x H1) : tA K Ex' f σ H G :=
  ⟨ρ, m, F, α, W, R, Post.bind h fun d m1 F1 α1 H1 x e W1 r p => hk d m1 F1 α1 H1 x e W1 (R.mono W.nf e) r p⟩
theorem tT_bind {β γ : Type} {RR : (Addr → Prop) → List Addr → Hp → β → γ → Prop} {Q : γ → Hp → Prop} {f : FT} {k : Bool → M → Res β} {G : Bool → Hp → Prop} (W : Wk K F α m H) (R : EnvR K F α H ρ σ) (h : Post K RR ((f ρ m).bind k) F α H Q (Ex' σ))
    (hk : ∀ d m1 F1 α1 H1, Ex F α H F1 α1 H1 → Wk K F1 α1 m1 H1 → EnvR K F1 α1 H1 ρ σ → Post K RR (k d m1) F1 α1 H1 Q (Ex' σ) → G d H1) : tT K Ex' f σ H G :=
  ⟨ρ, m, F, α, W, R, Post.bind h fun d m1 F1 α1 H1 x e W1 r p => by cases r; exact hk d m1 F1 α1 H1 e W1 (R.mono W.nf e) p⟩
theorem tP_outs {f : FE} {k : P → M → Out} {G : VK} (W : Wk K F α m H) (R : EnvR K F α H ρ σ) (h : PostS K ((f ρ m).outs ρ k) F α H D Ex')
    (hk : ∀ d m1 F1 α1 H1 x, Ex F α H F1 α1 H1 → Wk K F1 α1 m1 H1 → EnvR K F1 α1 H1 ρ σ → Rp K F1 α1 H1 d x → PostS K (k d m1) F1 α1 H1 D Ex' → G x H1) : tP K Ex' f σ H G := ⟨ρ, m, F, α, W, R, Post.outs W R h hk⟩
theorem tA_outs {f : FA} {k : List P → M → Out} {G : List V → Hp → Prop} (W : Wk K F α m H) (R : EnvR K F α H ρ σ) (h : PostS K ((f ρ m).outs ρ k) F α H D Ex')
    (hk : ∀ d m1 F1 α1 H1 x, Ex F α H F1 α1 H1 → Wk K F1 α1 m1 H1 → EnvR K F1 α1 H1 ρ σ → Rps K F1 α1 H1 d x → PostS K (k d m1) F1 α1 H1 D Ex' → G x H1) : tA K Ex' f σ H G := ⟨ρ, m, F, α, W, R, Post.outs W R h hk⟩
theorem tT_outs {f : FT} {k : Bool → M → Out} {G : Bool → Hp → Prop} (W : Wk K F α m H) (R : EnvR K F α H ρ σ) (h : PostS K ((f ρ m).outs ρ k) F α H D Ex')
    (hk : ∀ d m1 F1 α1 H1, Ex F α H F1 α1 H1 → Wk K F1 α1 m1 H1 → EnvR K F1 α1 H1 ρ σ → PostS K (k d m1) F1 α1 H1 D Ex' → G d H1) : tT K Ex' f σ H G :=
  ⟨ρ, m, F, α, W, R, Post.outs W R h fun d m1 F1 α1 H1 x e W1 R1 r p => by cases r; exact hk d m1 F1 α1 H1 e W1 R1 p⟩
end
theorem pe_imp {X : Cx} {e : Expr} {t t' : TE} (h : PE X e t) (f : ∀ σ H Q, t' σ H Q → t σ H Q) : PE X e t' := ⟨fun pins s σ H Q I w => h.run pins s σ H Q I (f σ H Q w)⟩
theorem pt_imp {X : Cx} {e : Expr} {t t' : TT} (h : PT X e t) (f : ∀ σ H Q, t' σ H Q → t σ H Q) : PT X e t' := ⟨fun pins s σ H Q I w => h.run pins s σ H Q I (f σ H Q w)⟩
theorem pw_imp {X : Cx} {e : Expr} {t t' : TT} (h : PW X e t) (f : ∀ σ H Q, t' σ H Q → t σ H Q) : PW X e t' := ⟨fun w pins s σ H Q I q => h.run w pins s σ H Q I (f σ H Q q)⟩
theorem pa_imp {X : Cx} {e : List Expr} {t t' : TA} (h : PA X e t) (f : ∀ σ H Q, t' σ H Q → t σ H Q) : PA X e t' := ⟨fun pos pins s σ H Q I w => h.run pos pins s σ H Q I (f σ H Q w)⟩
theorem ps_imp {X : Cx} {e : Stmt} {t t' : TS} (h : PS X e t) (f : ∀ D σ H, t' D σ H → t D σ H) : PS X e t' := ⟨fun pins s σ H D I w => h.run pins s σ H D I (f D σ H w)⟩
theorem pss_imp {X : Cx} {e : List Stmt} {t t' : TS} (h : PSs X e t) (f : ∀ D σ H, t' D σ H → t D σ H) : PSs X e t' := ⟨fun pins s σ H D I w => h.run pins s σ H D I (f D σ H w)⟩
theorem pi_imp {X : Cx} {g e : Expr} {t t' : TI} (h : PI X g e t) (f : ∀ σ H R, t' σ H R → t σ H R) : PI X g e t' := ⟨fun pins s σ H R I w => h.run pins s σ H R I (f σ H R w)⟩
theorem pe_alt {X : Cx} {e : Expr} {t t' : TE} (h : PE X e t) (h' : PE X e t') : PE X e (fun σ H Q => t σ H Q ∨ t' σ H Q) := ⟨fun pins s σ H Q I w => w.elim (h.run pins s σ H Q I) (h'.run pins s σ H Q I)⟩
theorem pi_alt {X : Cx} {g e : Expr} {t t' : TI} (h : PI X g e t) (h' : PI X g e t') : PI X g e (fun σ H Q => t σ H Q ∨ t' σ H Q) := ⟨fun pins s σ H Q I w => w.elim (h.run pins s σ H Q I) (h'.run pins s σ H Q I)⟩
theorem pt_alt {X : Cx} {e : Expr} {t t' : TT} (h : PT X e t) (h' : PT X e t') : PT X e (fun σ H Q => t σ H Q ∨ t' σ H Q) := ⟨fun pins s σ H Q I w => w.elim (h.run pins s σ H Q I) (h'.run pins s σ H Q I)⟩
theorem OpR.alt {X : Cx} {f : Value → Value → Sem Value} {r r' : R2} (h : OpR X f r) (h' : OpR X f r') : OpR X f (fun x y H Q => r x y H Q ∨ r' x y H Q) := fun pins s σ H x y v u Q I rx ry w => w.elim (h pins s σ H x y v u Q I rx ry) (h' pins s σ H x y v u Q I rx ry)
theorem CallR.alt {X : Cx} {f : Value} {r r' : List V → Hp → VK → Prop} (h : CallR X f r) (h' : CallR X f r') : CallR X f (fun x H Q => r x H Q ∨ r' x H Q) := fun pins s σ H x v Q I rx w => w.elim (h pins s σ H x v Q I rx) (h' pins s σ H x v Q I rx)

/-! ### expressions -/
def fVar (i : Nat) : FE := fun ρ m => match ρ[i]? with
  | some (some d) => .ok d m
  | _ => .stuck
def fC (d : P) : FE := fun _ m => .ok d m
def fOp (o : P → P → M → Res P) (fa fb : FE) : FE := fun ρ m => (fa ρ m).bind fun d m1 => (fb ρ m1).bind fun e m2 => o d e m2
def fUn (o : P → M → Res P) (fa : FE) : FE := fun ρ m => (fa ρ m).bind fun d m1 => o d m1
def fNil : FA := fun _ m => .ok [] m
def fCons (fa : FE) (fr : FA) : FA := fun ρ m => (fa ρ m).bind fun d m1 => (fr ρ m1).bind fun ds m2 => .ok (d :: ds) m2
def fCall (o : List P → M → Res P) (fa : FA) : FE := fun ρ m => (fa ρ m).bind fun ds m1 => o ds m1
def OpP (K : PySem.W.Frag) (r : R2) (o : P → P → M → Res P) : Prop := ∀ {F α m H d e x y Q E}, Wk K F α m H → Rp K F α H d x → Rp K F α H e y → Post K (VR K) (o d e m) F α H Q E → r x y H Q
def UnP (K : PySem.W.Frag) (r : V → Hp → VK → Prop) (o : P → M → Res P) : Prop := ∀ {F α m H d x Q E}, Wk K F α m H → Rp K F α H d x → Post K (VR K) (o d m) F α H Q E → r x H Q
def CallP (K : PySem.W.Frag) (r : List V → Hp → VK → Prop) (o : List P → M → Res P) : Prop := ∀ {F α m H d x Q E}, Wk K F α m H → Rps K F α H d x → Post K (VR K) (o d m) F α H Q E → r x H Q
/-- one of two operators, by what the values are -/
def Sel (o o1 o2 : P → P → M → Res P) : Prop := ∀ d e m, o d e m = o1 d e m ∨ o d e m = o2 d e m
theorem OpP.alt {K : PySem.W.Frag} {r1 r2 : R2} {o o1 o2 : P → P → M → Res P} (h1 : OpP K r1 o1) (h2 : OpP K r2 o2) (s : Sel o o1 o2) : OpP K (fun x y H Q => r1 x y H Q ∨ r2 x y H Q) o := by
  intro F α m H d e x y Q E W rx ry p
  rcases s d e m with q | q
  · rw [q] at p; exact .inl (h1 W rx ry p)
  · rw [q] at p; exact .inr (h2 W rx ry p)
theorem CallP.alt {K : PySem.W.Frag} {r1 r2 : List V → Hp → VK → Prop} {o o1 o2 : List P → M → Res P} (h1 : CallP K r1 o1) (h2 : CallP K r2 o2) (s : ∀ d m, o d m = o1 d m ∨ o d m = o2 d m) : CallP K (fun x H Q => r1 x H Q ∨ r2 x H Q) o := by
  intro F α m H d x Q E W rx p
  rcases s d m with q | q
  · rw [q] at p; exact .inl (h1 W rx p)
  · rw [q] at p; exact .inr (h2 W rx p)
section
variable {X : Cx} {E : St → XK} {a b e o : Expr} {es : List Expr} {pos p2 apos cpos p : Pos} {fa fb fo : FE} {fr : FA} {x : Str}
theorem pp_var (i : Nat) (hN : X.N[i]? = some x := by rfl) (hv : Vis X.env.scope x := by first | exact Or.inl rfl | exact Or.inr (Or.inl rfl) | exact Or.inr (Or.inr rfl)) (hd : (x == ("__debug__" : Str)) = false := by decide)
    (hcd : (x == ("__classdict__" : Str)) = false := by decide) : PE X (.Name x pos) (tP X.K E (fVar i)) := by
  refine pe_imp (pe_var (i := i) hN hv hd hcd) fun σ H Q ⟨ρ, m, F, α, W, R, p⟩ => ?_
  unfold fVar at p
  split at p
  · rename_i d hd
    obtain ⟨v, h1, h2⟩ := R.2 i d hd
    exact ⟨v, h1, p.here W h2⟩
  · exact p.elim
theorem pp_c {d : P} {v : V} (h : PE X e (tC v)) (r : ∀ F α H, Rp X.K F α H d v) : PE X e (tP X.K E (fC d)) :=
  pe_imp h fun σ H Q ⟨ρ, m, F, α, W, R, p⟩ => p.here W (r F α H)
theorem tOp_of {K : PySem.W.Frag} {r : R2} {op : P → P → M → Res P} (h : OpP K r op) {σ H Q} (w : tP K E (fOp op fa fb) σ H Q) : tOp r (tP K E fa) (tP K E fb) σ H Q := by
  obtain ⟨ρ, m, F, α, W, R, p⟩ := w
  exact tP_bind W R p fun d m1 F1 α1 H1 x e1 W1 R1 rx p1 => tP_bind W1 R1 p1 fun d2 m2 F2 α2 H2 y e2 W2 R2 ry p2 => h W2 (rx.mono W1.nf e2) ry p2
theorem tUn_of {K : PySem.W.Frag} {r : V → Hp → VK → Prop} {op : P → M → Res P} (h : UnP K r op) {σ H Q} (w : tP K E (fUn op fa) σ H Q) : tUn r (tP K E fa) σ H Q := by
  obtain ⟨ρ, m, F, α, W, R, p⟩ := w
  exact tP_bind W R p fun d m1 F1 α1 H1 x e1 W1 R1 rx p1 => h W1 rx p1
theorem tCB_of {K : PySem.W.Frag} {r : List V → Hp → VK → Prop} {op : List P → M → Res P} (h : CallP K r op) {σ H Q} (w : tP K E (fCall op fr) σ H Q) : tCB r (tA K E fr) σ H Q := by
  obtain ⟨ρ, m, F, α, W, R, p⟩ := w
  exact tA_bind W R p fun d m1 F1 α1 H1 x e1 W1 R1 rx p1 => h W1 rx p1
theorem pp_op {op : Operator} {r : R2} {o : P → P → M → Res P} (hr : OpR X (binaryOp op) r) (ho : OpP X.K r o) (ha : PE X a (tP X.K E fa)) (hb : PE X b (tP X.K E fb)) : PE X (.BinOp a op b pos) (tP X.K E (fOp o fa fb)) :=
  pe_imp (pe_op hr ha hb) fun _ _ _ w => tOp_of ho w
theorem pp_nil : PA X [] (tA X.K E fNil) := pa_imp pa_nil fun σ H Q ⟨ρ, m, F, α, W, R, p⟩ => p.here W .nil
theorem pp_cons (ha : PE X a (tP X.K E fa)) (hr : PA X es (tA X.K E fr)) (he : starEach (a :: es) X.env = (false, eval a X.env) :: starEach es X.env := by rfl) : PA X (a :: es) (tA X.K E (fCons fa fr)) :=
  pa_imp (pa_cons ha hr he) fun σ H Q ⟨ρ, m, F, α, W, R, p⟩ =>
    tP_bind W R p fun d m1 F1 α1 H1 x e1 W1 R1 rx p1 => tA_bind W1 R1 p1 fun ds m2 F2 α2 H2 ys e2 W2 R2 ry p2 => p2.here W2 (.cons (rx.mono W1.nf e2) ry)
end
/-! ### displays -/
/-- a new list: a tree (false) or a cell (true) -/
def mkL (c : Bool) (xs : List P) (m : M) : Res P := if c = true then .ok (.cell m.length) (m ++ [.lst xs]) else .ok (.lst xs) m
theorem mkL_f {xs : List P} {m : M} : mkL false xs m = .ok (.lst xs) m := rfl
theorem mkL_t {xs : List P} {m : M} : mkL true xs m = .ok (.cell m.length) (m ++ [.lst xs]) := rfl
section
variable {K : PySem.W.Frag} {F : Addr → Prop} {α : List Addr} {H : Hp} {m : M} {Q : VK} {E : XK}
theorem Post.mkL {c : Bool} {xs : List P} {vs : List V} {p : Addr} (h : Post K (VR K) (mkL c xs m) F α H Q E) (W : Wk K F α m H) (r : Rps K F α H xs vs) (hp : H p = none) : Q (.ref p) (upd H p (.lst vs)) := by
  unfold L2.Q.mkL at h
  split at h
  · obtain ⟨e, W'⟩ := W.add (c := .lst xs) (o := .lst vs) hp r
    refine h _ _ _ _ e W' (.cell ?_)
    rw [← W.len, List.getElem?_append_right (Nat.le_refl _), Nat.sub_self]
    rfl
  · exact h.fz W hp fun e => .lst (.inr rfl) upd_same (r.mono W.nf e)
theorem Post.mkT {xs : List P} {vs : List V} {p : Addr} (h : Post K (VR K) (.ok (.tup xs) m) F α H Q E) (W : Wk K F α m H) (r : Rps K F α H xs vs) (hp : H p = none) : Q (.ref p) (upd H p (.tup vs)) :=
  h.fz W hp fun e => .tup (.inr rfl) upd_same (r.mono W.nf e)
end
def fits (n : Nat) : Bool := decide (n ≤ 100000)
theorem fits_ok {n : Nat} (h : fits n = true) : n ≤ sizeLine := Evl.sz_of (of_decide_eq_true h)
def oTup (xs : List P) (m : M) : Res P := if fits xs.length = true then .ok (.tup xs) m else .stuck
def oLst (c : Bool) (xs : List P) (m : M) : Res P := if fits xs.length = true then mkL c xs m else .stuck
def fTup (fr : FA) : FE := fCall oTup fr
def fLst (c : Bool) (fr : FA) : FE := fCall (oLst c) fr
section
variable {X : Cx} {E : St → XK} {es : List Expr} {pos : Pos} {fr : FA}
theorem pp_tup {kk} (h : PA X es (tA X.K E fr)) : PE X (.Tuple es kk pos) (tP X.K E (fTup fr)) :=
  pe_imp (pe_tup h) fun σ H Q ⟨ρ, m, F, α, W, R, p⟩ => tA_bind W R p fun d m1 F1 α1 H1 x e1 W1 R1 rx p1 => by
    unfold oTup at p1
    split at p1
    · rename_i hz
      exact ⟨by rw [← rx.length]; exact fits_ok hz, fun p hp => p1.mkT W1 rx hp⟩
    · exact p1.elim
theorem pp_lst (c : Bool) (h : PA X es (tA X.K E fr)) : PE X (.List es pos) (tP X.K E (fLst c fr)) :=
  pe_imp (pe_lst h) fun σ H Q ⟨ρ, m, F, α, W, R, p⟩ => tA_bind W R p fun d m1 F1 α1 H1 x e1 W1 R1 rx p1 => by
    unfold oLst at p1
    split at p1
    · rename_i hz
      exact ⟨by rw [← rx.length]; exact fits_ok hz, fun p hp => p1.mkL W1 rx hp⟩
    · exact p1.elim
end
end
/-! N2 -/
section
open PySem PySem.Spec PyProof.Rows
/-! ### views -/
def lv (m : M) : P → Option (List P)
  | .lst xs => some xs
  | .xls xs => some xs
  | .cell n => match m[n]? with
    | some (.lst xs) => some xs
    | _ => none
  | _ => none
def lw (m : M) : P → Option (List P)
  | .lst xs => some xs
  | .cell n => match m[n]? with
    | some (.lst xs) => some xs
    | _ => none
  | _ => none
section
variable {K : PySem.W.Frag} {F : Addr → Prop} {α : List Addr} {H : Hp} {m : M} {d e : P} {v w : V} {xs : List P} {Q : VK} {E : XK}
theorem lw_ok (W : Wk K F α m H) (r : Rp K F α H d v) (h : lw m d = some xs) : ∃ a vs, v = .ref a ∧ H a = some (.lst vs) ∧ Rps K F α H xs vs := by
  cases r with
  | lst h1 h2 h3 =>
    simp only [lw] at h
    cases h
    exact ⟨_, _, rfl, h2, h3⟩
  | @cell n a ha =>
    simp only [lw] at h
    split at h
    · rename_i ys hn
      cases h
      obtain ⟨o, ho, hc⟩ := W.at_ n _ a hn ha
      cases o <;> first | exact hc.elim | skip
      exact ⟨a, _, rfl, ho, hc⟩
    · cases h
  | _ => simp [lw] at h
theorem lv_ok (W : Wk K F α m H) (r : Rp K F α H d v) (h : lv m d = some xs) : ∃ a vs, v = .ref a ∧ SqL K H a vs ∧ Rps K F α H xs vs := by
  have key : ∀ ys, lw m d = some ys → ys = xs → ∃ a vs, v = .ref a ∧ SqL K H a vs ∧ Rps K F α H xs vs := fun ys hy e => by
    subst e
    obtain ⟨a, vs, e1, e2, e3⟩ := lw_ok W r hy
    exact ⟨a, vs, e1, SqL.of e2, e3⟩
  cases d <;> simp only [lv] at h <;> try cases h
  · exact key _ rfl rfl
  · cases r
    rename_i a vs h1 h2
    refine ⟨a, vs, rfl, ?_, h2⟩
    rcases h1 with h1 | h1
    · exact .inl h1.2
    · exact h1 H
  · exact key xs (by simp only [lw]; exact h) rfl
theorem tv_ok (r : Rp K F α H (.tup xs) v) : ∃ a vs, v = .ref a ∧ F a ∧ H a = some (.tup vs) ∧ Rps K F α H xs vs := by
  cases r
  exact ⟨_, _, rfl, ‹_›, ‹_›, ‹_›⟩
end
/-! ### arithmetic -/
def oAdd (c : Bool) (d e : P) (m : M) : Res P := match d, e with
  | .int a, .int b => .ok (.int (a + b)) m
  | .str a, .str b => if fits (a.length + b.length) = true then .ok (.str (a ++ b)) m else .stuck
  | .tup xs, .tup ys => if fits (xs.length + ys.length) = true then .ok (.tup (xs ++ ys)) m else .stuck
  | d, e => match lw m d, lw m e with
    | some xs, some ys => if fits (xs.length + ys.length) = true then mkL c (xs ++ ys) m else .stuck
    | _, _ => .stuck
def oSub (d e : P) (m : M) : Res P := match d, e with
  | .int a, .int b => .ok (.int (a - b)) m
  | _, _ => .stuck
def mulOk (a b : Int) : Bool := decide ((-(2 ^ 64) < a ∧ a < 2 ^ 64) ∨ (-(2 ^ 64) < b ∧ b < 2 ^ 64))
def oMul (c : Bool) (d e : P) (m : M) : Res P := match d, e with
  | .int a, .int b => if mulOk a b = true then .ok (.int (a * b)) m else .stuck
  | d, .int k => match lw m d with
    | some [x] => if decide (0 ≤ k ∧ k ≤ 100000) = true then mkL c (List.replicate k.toNat x) m else .stuck
    | _ => .stuck
  | _, _ => .stuck
def oFdv (d e : P) (m : M) : Res P := match d, e with
  | .int a, .int b => if decide (0 < b ∧ b < 2 ^ 62) = true then .ok (.int (a / b)) m else .stuck
  | _, _ => .stuck
def oMod (d e : P) (m : M) : Res P := match d, e with
  | .int a, .int b => if decide (0 < b) = true then .ok (.int (a % b)) m else .stuck
  | _, _ => .stuck
def oPow (d e : P) (m : M) : Res P := match d, e with
  | .int a, .int b => if decide (0 ≤ b ∧ b ≤ 1000000 ∧ a.natAbs < 2 ^ 64) = true then .ok (.int (a ^ b.toNat)) m else .stuck
  | _, _ => .stuck
def oNeg (d : P) (m : M) : Res P := match d with
  | .int a => .ok (.int (-a)) m
  | _ => .stuck
theorem iteG {p : Prop} [Decidable p] {β γ : Type} {K : PySem.W.Frag} {RR : (Addr → Prop) → List Addr → Hp → β → γ → Prop} {r : Res β} {F α H Q E} (h : Post K RR (if p then r else .stuck) F α H Q E) : p ∧ Post K RR r F α H Q E := by
  by_cases hp : p
  · rw [if_pos hp] at h; exact ⟨hp, h⟩
  · rw [if_neg hp] at h; exact h.elim
section
variable {K : PySem.W.Frag} {X : Cx}
def rAdd4 (K : PySem.W.Frag) : R2 := fun x y H Q => rAddI x y H Q ∨ rAddS x y H Q ∨ rCatA K x y H Q ∨ rCat x y H Q
theorem o_add : OpR X (binaryOp .Add) (rAdd4 X.K) := fun pins s σ H x y v u Q I rx ry h => by
  rcases h with h | h | h | h
  · exact oAddI pins s σ H x y v u Q I rx ry h
  · exact oAddS pins s σ H x y v u Q I rx ry h
  · exact op_catA pins s σ H x y v u Q I rx ry h
  · exact op_cat pins s σ H x y v u Q I rx ry h
theorem catL_ok {c : Bool} {F α m H d e x y Q E} (W : Wk K F α m H) (rx : Rp K F α H d x) (ry : Rp K F α H e y)
    (p : Post K (VR K) (match lw m d, lw m e with
    | some xs, some ys => if fits (xs.length + ys.length) = true then mkL c (xs ++ ys) m else .stuck
    | _, _ => .stuck) F α H Q E) : rCat x y H Q := by
  split at p
  · rename_i xs ys h1 h2
    obtain ⟨hz, p⟩ := iteG p
    obtain ⟨a, vs, rfl, e1, r1⟩ := lw_ok W rx h1
    obtain ⟨b, ws, rfl, e2, r2⟩ := lw_ok W ry h2
    exact ⟨a, b, vs, ws, rfl, rfl, e1, e2, by rw [← r1.length, ← r2.length]; exact fits_ok hz, fun p' hp => p.mkL W (r1.append r2) hp⟩
  · exact p.elim
theorem p_add (c : Bool) : OpP K (rAdd4 K) (oAdd c) := by
  intro F α m H d e x y Q E W rx ry p
  unfold oAdd at p
  split at p
  · cases rx; cases ry
    exact .inl ⟨_, _, rfl, rfl, p.here W (.int _)⟩
  · cases rx; cases ry
    obtain ⟨hz, p⟩ := iteG p
    exact .inr (.inl ⟨_, _, rfl, rfl, fits_ok hz, p.here W (.str _)⟩)
  · rename_i xs ys
    obtain ⟨hz, p⟩ := iteG p
    obtain ⟨a, vs, rfl, f1, e1, r1⟩ := tv_ok rx
    obtain ⟨b, ws, rfl, f2, e2, r2⟩ := tv_ok ry
    refine .inr (.inr (.inl ⟨a, b, vs, ws, rfl, rfl, Evl.st_of e1, Evl.st_of e2, by rw [← r1.length, ← r2.length]; exact fits_ok hz, fun h => ?_, fun _ h => ?_, fun _ _ p' hp => p.mkT W (r1.append r2) hp⟩))
    · subst h
      cases r1
      exact p.here W (.tup f2 e2 r2)
    · subst h
      cases r2
      exact p.here W (.tup f1 e1 (by rw [List.append_nil]; exact r1))
  · exact .inr (.inr (.inr (catL_ok W rx ry p)))
theorem p_sub : OpP K rSubI oSub := by
  intro F α m H d e x y Q E W rx ry p
  unfold oSub at p
  split at p
  · cases rx; cases ry
    exact ⟨_, _, rfl, rfl, p.here W (.int _)⟩
  · exact p.elim
def rMul2 : R2 := fun x y H Q => rMulI x y H Q ∨ rRep x y H Q
theorem o_mul : OpR X (binaryOp .Mult) rMul2 := fun pins s σ H x y v u Q I rx ry h => by
  rcases h with h | h
  · exact oMulI pins s σ H x y v u Q I rx ry h
  · exact op_rep pins s σ H x y v u Q I rx ry h
theorem p_mul (c : Bool) : OpP K rMul2 (oMul c) := by
  intro F α m H d e x y Q E W rx ry p
  unfold oMul at p
  split at p
  · cases rx; cases ry
    obtain ⟨hz, p⟩ := iteG p
    have hz' := of_decide_eq_true hz
    exact .inl ⟨_, _, rfl, rfl, hz', p.here W (.int _)⟩
  · cases ry
    split at p
    · rename_i z hl
      obtain ⟨hz, p⟩ := iteG p
      obtain ⟨a, vs, rfl, e1, r1⟩ := lw_ok W rx hl
      cases r1 with
      | cons r0 rr =>
        cases rr
        exact .inr (v_rep e1 (of_decide_eq_true hz) fun p' hp => p.mkL W (.replicate r0 _) hp)
    · exact p.elim
  · exact p.elim
theorem p_fdv : OpP K rFdvI oFdv := by
  intro F α m H d e x y Q E W rx ry p
  unfold oFdv at p
  split at p
  · cases rx; cases ry
    obtain ⟨hz, p⟩ := iteG p
    exact v_fdvI (of_decide_eq_true hz) (p.here W (.int _))
  · exact p.elim
theorem p_mod : OpP K rModI oMod := by
  intro F α m H d e x y Q E W rx ry p
  unfold oMod at p
  split at p
  · cases rx; cases ry
    obtain ⟨hz, p⟩ := iteG p
    exact ⟨_, _, rfl, rfl, of_decide_eq_true hz, p.here W (.int _)⟩
  · exact p.elim
theorem p_pow : OpP K rPowI oPow := by
  intro F α m H d e x y Q E W rx ry p
  unfold oPow at p
  split at p
  · cases rx; cases ry
    obtain ⟨hz, p⟩ := iteG p
    exact v_powI (of_decide_eq_true hz) (p.here W (.int _))
  · exact p.elim
theorem p_neg : UnP K rNegI oNeg := by
  intro F α m H d x Q E W rx p
  unfold oNeg at p
  split at p
  · cases rx
    exact ⟨_, rfl, p.here W (.int _)⟩
  · exact p.elim
end
/-! ### equality -/
mutual
def P.data : P → Option PyData
  | .non => some .none
  | .bl b => some (.bool b)
  | .int i => some (.int i)
  | .str x => some (.str x)
  | .tup xs => (P.datas xs).map .tuple
  | .lst xs => (P.datas xs).map .list
  | .xls xs => (P.datas xs).map .list
  | _ => none
def P.datas : List P → Option (List PyData)
  | [] => some []
  | x :: xs => match P.data x, P.datas xs with
    | some d, some ds => some (d :: ds)
    | _, _ => none
end
/-- a cell's list as a list -/
def sh (m : M) (d : P) : P := match d with
  | .cell n => match m[n]? with
    | some (.lst xs) => .lst xs
    | _ => d
  | d => d
section
variable {K : PySem.W.Frag} {F : Addr → Prop} {α : List Addr} {H : Hp} {m : M} {Q : VK} {E : XK}
mutual
theorem data_dp (W : Wk K F α m H) : ∀ {d : P} {v : V} {x : PyData}, Rp K F α H d v → d.data = some x → Dp K H v x
  | _, _, _, .non, h => by simp only [P.data] at h; cases h; exact .non
  | _, _, _, .bl b, h => by simp only [P.data] at h; cases h; exact .bl b
  | _, _, _, .int i, h => by simp only [P.data] at h; cases h; exact .int i
  | _, _, _, .str x, h => by simp only [P.data] at h; cases h; exact .str x
  | _, _, _, .tup h1 h2 h3, h => by
    simp only [P.data] at h
    obtain ⟨ds, hd, rfl⟩ := Option.map_eq_some_iff.mp h
    exact .tup (Evl.st_of h2) (datas_dp W h3 hd)
  | _, _, _, .lst h1 h2 h3, h => by
    simp only [P.data] at h
    obtain ⟨ds, hd, rfl⟩ := Option.map_eq_some_iff.mp h
    exact .lst (SqL.of h2) (datas_dp W h3 hd)
  | _, _, _, .xls h1 h3, h => by
    simp only [P.data] at h
    obtain ⟨ds, hd, rfl⟩ := Option.map_eq_some_iff.mp h
    exact .lst (h1.elim (fun q => .inl q.2) fun q => q H) (datas_dp W h3 hd)
  | _, _, _, .ty n, h => by simp only [P.data] at h; cases h
  | _, _, _, .cls c, h => by simp only [P.data] at h; cases h
  | _, _, _, .dK .., h => by simp only [P.data] at h; cases h
  | _, _, _, .dT .., h => by simp only [P.data] at h; cases h
  | _, _, _, .obj .., h => by simp only [P.data] at h; cases h
  | _, _, _, .cell .., h => by simp only [P.data] at h; cases h
theorem datas_dp (W : Wk K F α m H) : ∀ {d : List P} {v : List V} {x : List PyData}, Rps K F α H d v → P.datas d = some x → DpAll K H v x
  | _, _, _, .nil, h => by simp only [P.datas] at h; cases h; exact .nil
  | _, _, _, .cons r t, h => by
    simp only [P.datas] at h
    split at h
    · rename_i e es h1 h2
      cases h
      exact .cons (data_dp W r h1) (datas_dp W t h2)
    · cases h
end
theorem sh_dp (W : Wk K F α m H) {d : P} {v : V} {x : PyData} (r : Rp K F α H d v) (h : (sh m d).data = some x) : Dp K H v x := by
  by_cases hc : sh m d = d
  · rw [hc] at h; exact data_dp W r h
  · unfold sh at hc h
    split at h
    · rename_i n
      split at h
      · rename_i xs hn
        have hl : lw m (.cell n) = some xs := by simp only [lw, hn]
        obtain ⟨a, vs, rfl, e1, r1⟩ := lw_ok W r hl
        simp only [P.data] at h
        obtain ⟨ds, hd, rfl⟩ := Option.map_eq_some_iff.mp h
        exact .lst (SqL.of e1) (datas_dp W r1 hd)
      · exact data_dp W r h
    · exact data_dp W r h
end
def scalP : P → P → Bool
  | .non, .non => true | .non, .int _ => true | .int _, .non => true | .non, .bl _ => true | .bl _, .non => true | .non, .str _ => true | .str _, .non => true
  | .int _, .int _ => true | .bl _, .bl _ => true | .str _, .str _ => true
  | .int _, .str _ => true | .str _, .int _ => true | .bl _, .str _ => true | .str _, .bl _ => true
  | _, _ => false
def eqP : P → P → Bool
  | .non, .non => true
  | .int a, .int b => decide (a = b)
  | .bl a, .bl b => decide (a = b)
  | .str a, .str b => decide (a = b)
  | _, _ => false
def eqDat (d e : P) (m : M) : Option Bool := match (sh m d).data, (sh m e).data with
  | some a, some b => if (SeqAt.shaped a && SeqAt.shaped b) = true then some (PyData.eqv a b) else none
  | _, _ => none
def oEq (d e : P) (m : M) : Res P := if scalP d e = true then .ok (.bl (eqP d e)) m else match eqDat d e m with
  | some b => .ok (.bl b) m
  | none => .stuck
def oNe (d e : P) (m : M) : Res P := if scalP d e = true then .ok (.bl (!eqP d e)) m else match eqDat d e m with
  | some b => .ok (.bl (!b)) m
  | none => .stuck
def rEqZ (K : PySem.W.Frag) : R2 := fun x y H Q => rEq x y H Q ∨ rEqD K x y H Q
def rNeZ (K : PySem.W.Frag) : R2 := fun x y H Q => rNe x y H Q ∨ rNeD K x y H Q
section
variable {K : PySem.W.Frag} {X : Cx}
theorem o_eq (hu : X.A.units + 64 < cLine) : OpR X (compareOp .Eq) (rEqZ X.K) := OpR.alt op_eq (op_eqD hu)
theorem o_ne (hu : X.A.units + 64 < cLine) : OpR X (compareOp .NotEq) (rNeZ X.K) := OpR.alt op_ne (op_neD hu)
theorem scal_of {F α H d e x y} (h : scalP d e = true) (rx : Rp K F α H d x) (ry : Rp K F α H e y) : scal x y = true ∧ decide (x = y) = eqP d e := by
  cases rx <;> cases ry <;> simp_all [scalP, scal, eqP]
theorem eqDat_ok {F α H m d e x y b} (W : Wk K F α m H) (rx : Rp K F α H d x) (ry : Rp K F α H e y) (h : eqDat d e m = some b) : ∃ a c, Dp K H x a ∧ Dp K H y c ∧ SeqAt.shaped a = true ∧ SeqAt.shaped c = true ∧ b = PyData.eqv a c := by
  unfold eqDat at h
  split at h
  · rename_i a c h1 h2
    split at h
    · rename_i hs
      cases h
      rw [Bool.and_eq_true] at hs
      exact ⟨a, c, sh_dp W rx h1, sh_dp W ry h2, hs.1, hs.2, rfl⟩
    · cases h
  · cases h
theorem p_eq : OpP K (rEqZ K) oEq := by
  intro F α m H d e x y Q E W rx ry p
  unfold oEq at p
  split at p
  · rename_i h
    obtain ⟨h1, h2⟩ := scal_of h rx ry
    exact .inl ⟨h1, by rw [h2]; exact p.here W (.bl _)⟩
  · split at p
    · rename_i b hb
      obtain ⟨a, c, d1, d2, s1, s2, rfl⟩ := eqDat_ok W rx ry hb
      exact .inr ⟨a, c, d1, d2, s1, s2, p.here W (.bl _)⟩
    · exact p.elim
theorem p_ne : OpP K (rNeZ K) oNe := by
  intro F α m H d e x y Q E W rx ry p
  unfold oNe at p
  split at p
  · rename_i h
    obtain ⟨h1, h2⟩ := scal_of h rx ry
    exact .inl ⟨h1, by rw [h2]; exact p.here W (.bl _)⟩
  · split at p
    · rename_i b hb
      obtain ⟨a, c, d1, d2, s1, s2, rfl⟩ := eqDat_ok W rx ry hb
      exact .inr ⟨a, c, d1, d2, s1, s2, p.here W (.bl _)⟩
    · exact p.elim
end
/-! ### is None, in -/
def isNon : P → Bool
  | .non => true
  | _ => false
def oIsN (d e : P) (m : M) : Res P := if isNon e = true then .ok (.bl (isNon d)) m else .stuck
def oNotN (d e : P) (m : M) : Res P := if isNon e = true then .ok (.bl (!isNon d)) m else .stuck
section
variable {K : PySem.W.Frag} {X : Cx}
theorem isNon_of {F α H d x} (rx : Rp K F α H d x) : decide (x = V.non) = isNon d := by
  cases rx <;> simp [isNon]
theorem p_isN : OpP K rIsNo oIsN := by
  intro F α m H d e x y Q E W rx ry p
  unfold oIsN at p
  obtain ⟨h, p⟩ := iteG p
  have hy : y = V.non := by have := isNon_of ry; rw [h] at this; exact of_decide_eq_true this
  exact ⟨hy, by rw [isNon_of rx]; exact p.here W (.bl _)⟩
theorem p_notN : OpP K rNotNo oNotN := by
  intro F α m H d e x y Q E W rx ry p
  unfold oNotN at p
  obtain ⟨h, p⟩ := iteG p
  have hy : y = V.non := by have := isNon_of ry; rw [h] at this; exact of_decide_eq_true this
  exact ⟨hy, by rw [isNon_of rx]; exact p.here W (.bl _)⟩
end
end
/-! N3 -/
section
open PySem PySem.Spec PyProof.Rows
/-! ### tests -/
def tru (m : M) : P → Option Bool
  | .non => some false
  | .bl b => some b
  | .int i => some (i != 0)
  | .str x => if fits x.length = true then some ((x.length : Int) != 0) else none
  | .tup xs => some (!xs.isEmpty)
  | .dK kvs => some (!kvs.isEmpty)
  | .cell n => match m[n]? with
    | some (.lst xs) => some (!xs.isEmpty)
    | some (.dK kvs) => some (!kvs.isEmpty)
    | _ => none
  | d => (lv m d).map fun xs => !xs.isEmpty
theorem Rps.isEmpty {K F α H} {xs : List P} {vs : List V} (r : Rps K F α H xs vs) : vs.isEmpty = xs.isEmpty := by cases r <;> rfl
theorem map_empty {α β γ : Type} {f : α → γ} {g : β → γ} {a : List α} {b : List β} (h : a.map f = b.map g) : b.isEmpty = a.isEmpty := by
  cases a <;> cases b <;> simp_all
theorem tru_of {K : PySem.W.Frag} {F α H m d v k} (W : Wk K F α m H) (r : Rp K F α H d v) (h : tru m d = some k) : TruV K v H k := by
  have lst : ∀ xs, lv m d = some xs → k = !xs.isEmpty → TruV K v H k := fun xs hl hk => by
    obtain ⟨a, vs, rfl, e, r1⟩ := lv_ok W r hl
    exact .inl ⟨vs, e, by rw [r1.isEmpty]; exact hk⟩
  cases r with
  | non => simp only [tru, Option.some.injEq] at h; exact h.symm
  | bl b => simp only [tru, Option.some.injEq] at h; exact h.symm
  | int i => simp only [tru, Option.some.injEq] at h; exact h.symm
  | str x =>
    simp only [tru] at h
    split at h
    · rename_i hf
      cases h
      exact ⟨fits_ok hf, rfl⟩
    · cases h
  | tup h1 h2 h3 =>
    simp only [tru, Option.some.injEq] at h
    exact .inr (.inl ⟨_, Evl.st_of h2, by rw [h3.isEmpty]; exact h.symm⟩)
  | dK h1 h2 h3 h4 =>
    simp only [tru, Option.some.injEq] at h
    exact .inr (.inr ⟨_, h2, by rw [map_empty h3]; exact h.symm⟩)
  | @cell n a ha =>
    simp only [tru] at h
    split at h
    · rename_i xs hn
      cases h
      exact lst xs (by simp only [lv, hn]) rfl
    · rename_i kvs hn
      cases h
      obtain ⟨o, ho, hc⟩ := W.at_ n _ a hn ha
      cases o <;> first | exact hc.elim | skip
      exact .inr (.inr ⟨_, ho, by rw [map_empty hc.1]⟩)
    · cases h
  | lst h1 h2 h3 => simp only [tru, lv, Option.map_some, Option.some.injEq] at h; exact lst _ rfl h.symm
  | xls h1 h2 => simp only [tru, lv, Option.map_some, Option.some.injEq] at h; exact lst _ rfl h.symm
  | _ => simp [tru, lv] at h
def fTru (fe : FE) : FT := fun ρ m => (fe ρ m).bind fun d m1 => match tru m1 d with
  | some b => .ok b m1
  | none => .stuck
def fBl (fe : FE) : FT := fun ρ m => (fe ρ m).bind fun d m1 => match d with
  | .bl b => .ok b m1
  | _ => .stuck
def fAnd (fa fb : FT) : FT := fun ρ m => (fa ρ m).bind fun b m1 => if b = true then fb ρ m1 else .ok false m1
def fOr (fa fb : FT) : FT := fun ρ m => (fa ρ m).bind fun b m1 => if b = true then .ok true m1 else fb ρ m1
def fNot (fa : FT) : FT := fun ρ m => (fa ρ m).bind fun b m1 => .ok (!b) m1
def fAndV (fa fb : FE) : FE := fun ρ m => (fa ρ m).bind fun d m1 => match tru m1 d with
  | some true => fb ρ m1
  | some false => .ok d m1
  | none => .stuck
def fOrV (fa fb : FE) : FE := fun ρ m => (fa ρ m).bind fun d m1 => match tru m1 d with
  | some true => .ok d m1
  | some false => fb ρ m1
  | none => .stuck
def oNotV (d : P) (m : M) : Res P := match d with
  | .bl b => .ok (.bl (!b)) m
  | _ => .stuck
def fNotV (fa : FE) : FE := fUn oNotV fa
def fIf (c : FT) (fa fb : FE) : FE := fun ρ m => (c ρ m).bind fun b m1 => if b = true then fa ρ m1 else fb ρ m1
def fChain (o1 o2 : P → P → M → Res P) (fa fb fc : FE) : FE := fun ρ m => (fa ρ m).bind fun x m1 => (fb ρ m1).bind fun y m2 => (o1 x y m2).bind fun z m3 => match z with
  | .bl true => (fc ρ m3).bind fun w m4 => o2 y w m4
  | .bl false => .ok (.bl false) m3
  | _ => .stuck
section
variable {X : Cx} {E : St → XK} {a b c e o : Expr} {es : List Expr} {rest : List Expr} {pos p2 apos cpos p : Pos} {fa fb fc fo : FE} {ta tb tc : FT} {fr : FA} {x : Str}
theorem pp_tru (h : PE X a (tP X.K E fa)) (he : ∀ whole, isTrue a X.env whole = (do let v ← whole; standAt a.pos; holding [v] (truthy v)) := by intro _; rfl) : PT X a (tT X.K E (fTru fa)) :=
  pt_imp (pt_truth h he) fun σ H Q ⟨ρ, m, F, α, W, R, p⟩ => tP_bind W R p fun d m1 F1 α1 H1 x e1 W1 R1 rx p1 => by
    split at p1
    · rename_i b hb
      exact ⟨b, tru_of W1 rx hb, p1.here W1 rfl⟩
    · exact p1.elim
theorem tTest_of {K : PySem.W.Frag} {f : FE} {t : TE} (h : ∀ σ H Q, tP K E f σ H Q → t σ H Q) {σ H Q} (w : tT K E (fBl f) σ H Q) : tTest t σ H Q := by
  obtain ⟨ρ, m, F, α, W, R, p⟩ := w
  exact h _ _ _ (tP_bind W R p fun d m1 F1 α1 H1 x e1 W1 R1 rx p1 => by
    split at p1
    · cases rx
      exact ⟨_, rfl, p1.here W1 rfl⟩
    · exact p1.elim)
theorem pp_tcmp {op : CmpOp} {r : R2} {o : P → P → M → Res P} (hr : OpR X (compareOp op) r) (ho : OpP X.K r o) (ha : PE X a (tP X.K E fa)) (hb : PE X b (tP X.K E fb)) (hm : behindInMarks op b = false) : PT X (.Compare a [op] [b] pos) (tT X.K E (fBl (fOp o fa fb))) :=
  pt_imp (pt_cmpR hr ha hb hm) fun σ H Q w => tTest_of (fun _ _ _ z => tOp_of ho z) w
theorem pp_cmp {op : CmpOp} {r : R2} {o : P → P → M → Res P} (hr : OpR X (compareOp op) r) (ho : OpP X.K r o) (ha : PE X a (tP X.K E fa)) (hb : PE X b (tP X.K E fb)) (hm : behindInMarks op b = false) : PE X (.Compare a [op] [b] pos) (tP X.K E (fOp o fa fb)) :=
  pe_imp (pe_cmpR hr ha hb hm) fun σ H Q w => tOp_of ho w
theorem tChain_of {K : PySem.W.Frag} {r r' : R2} {o1 o2 : P → P → M → Res P} (h1 : OpP K r o1) (h2 : OpP K r' o2) {σ H Q} (w : tP K E (fChain o1 o2 fa fb fc) σ H Q) : tChain r r' (tP K E fa) (tP K E fb) (tP K E fc) σ H Q := by
  obtain ⟨ρ, m, F, α, W, R, p⟩ := w
  refine tP_bind W R p fun d m1 F1 α1 H1 x e1 W1 R1 rx p1 => tP_bind W1 R1 p1 fun d2 m2 F2 α2 H2 y e2 W2 R2 ry p2 => ?_
  refine h1 W2 (rx.mono W1.nf e2) ry (Post.bind p2 fun z m3 F3 α3 H3 v e3 W3 rz p3 => ?_)
  split at p3
  · cases rz
    refine ⟨true, rfl, ?_⟩
    rw [if_pos rfl]
    exact tP_bind W3 (R2.mono W2.nf e3) p3 fun w m4 F4 α4 H4 u e4 W4 R4 rw' p4 => h2 W4 ((ry.mono W2.nf e3).mono W3.nf e4) rw' p4
  · cases rz
    refine ⟨false, rfl, ?_⟩
    rw [if_neg Bool.false_ne_true]
    exact p3.here W3 (.bl _)
  · exact p3.elim
theorem pp_chain {op op' : CmpOp} {r r' : R2} {o1 o2 : P → P → M → Res P} (hr : OpR X (compareOp op) r) (hr' : OpR X (compareOp op') r') (h1 : OpP X.K r o1) (h2 : OpP X.K r' o2) (ha : PE X a (tP X.K E fa)) (hb : PE X b (tP X.K E fb)) (hc : PE X c (tP X.K E fc))
    (hm : lastMarks [op, op'] [b, c] = false := by with_unfolding_all rfl) : PE X (.Compare a [op, op'] [b, c] pos) (tP X.K E (fChain o1 o2 fa fb fc)) :=
  pe_imp (pe_chain hr hr' ha hb hc hm) fun σ H Q w => tChain_of h1 h2 w
theorem pp_tchain {op op' : CmpOp} {r r' : R2} {o1 o2 : P → P → M → Res P} (hr : OpR X (compareOp op) r) (hr' : OpR X (compareOp op') r') (h1 : OpP X.K r o1) (h2 : OpP X.K r' o2) (ha : PE X a (tP X.K E fa)) (hb : PE X b (tP X.K E fb)) (hc : PE X c (tP X.K E fc))
    (hm : lastMarks [op, op'] [b, c] = false := by with_unfolding_all rfl) : PT X (.Compare a [op, op'] [b, c] pos) (tT X.K E (fBl (fChain o1 o2 fa fb fc))) :=
  pt_imp (pt_chain hr hr' ha hb hc hm) fun σ H Q w => tTest_of (fun _ _ _ z => tChain_of h1 h2 z) w
theorem pp_not (h : PT X a (tT X.K E ta)) : PT X (.UnaryOp .Not a pos) (tT X.K E (fNot ta)) :=
  pt_imp (pt_not h) fun σ H Q ⟨ρ, m, F, α, W, R, p⟩ => tT_bind W R p fun d m1 F1 α1 H1 e1 W1 R1 p1 => p1.here W1 rfl
theorem tAnd_of {K : PySem.W.Frag} {σ H Q} (w : tT K E (fAnd ta tb) σ H Q) : tAnd (tT K E ta) (tT K E tb) σ H Q := by
  obtain ⟨ρ, m, F, α, W, R, p⟩ := w
  refine tT_bind W R p fun d m1 F1 α1 H1 e1 W1 R1 p1 => ?_
  cases d with
  | true => rw [if_pos rfl] at p1 ⊢; exact ⟨ρ, m1, F1, α1, W1, R1, p1⟩
  | false => rw [if_neg Bool.false_ne_true] at p1 ⊢; exact p1.here W1 rfl
theorem tOr_of {K : PySem.W.Frag} {σ H Q} (w : tT K E (fOr ta tb) σ H Q) : tOr (tT K E ta) (tT K E tb) σ H Q := by
  obtain ⟨ρ, m, F, α, W, R, p⟩ := w
  refine tT_bind W R p fun d m1 F1 α1 H1 e1 W1 R1 p1 => ?_
  cases d with
  | false => rw [if_neg Bool.false_ne_true] at p1 ⊢; exact ⟨ρ, m1, F1, α1, W1, R1, p1⟩
  | true => rw [if_pos rfl] at p1 ⊢; exact p1.here W1 rfl
theorem pp_and1 (h : PT X a (tT X.K E ta)) : PW X (.BoolOp .And [a] pos) (tT X.K E ta) := pw_and1 h
theorem pp_or1 (h : PT X a (tT X.K E ta)) : PW X (.BoolOp .Or [a] pos) (tT X.K E ta) := pw_or1 h
theorem pp_and (h : PT X a (tT X.K E ta)) (h2 : PW X (.BoolOp .And (b :: rest) pos) (tT X.K E tb)) : PW X (.BoolOp .And (a :: b :: rest) pos) (tT X.K E (fAnd ta tb)) := pw_imp (pw_and h h2) fun σ H Q w => tAnd_of w
theorem pp_or (h : PT X a (tT X.K E ta)) (h2 : PW X (.BoolOp .Or (b :: rest) pos) (tT X.K E tb)) : PW X (.BoolOp .Or (a :: b :: rest) pos) (tT X.K E (fOr ta tb)) := pw_imp (pw_or h h2) fun σ H Q w => tOr_of w
theorem pp_andV (h : PE X a (tP X.K E fa)) (h2 : PE X (.BoolOp .And (b :: rest) pos) (tP X.K E fb)) : PE X (.BoolOp .And (a :: b :: rest) pos) (tP X.K E (fAndV fa fb)) :=
  pe_imp (pe_andT h h2) fun σ H Q ⟨ρ, m, F, α, W, R, p⟩ => tP_bind W R p fun d m1 F1 α1 H1 x e1 W1 R1 rx p1 => by
    split at p1
    · rename_i hb; exact ⟨true, tru_of W1 rx hb, by rw [if_pos rfl]; exact ⟨ρ, m1, F1, α1, W1, R1, p1⟩⟩
    · rename_i hb; exact ⟨false, tru_of W1 rx hb, by rw [if_neg Bool.false_ne_true]; exact p1.here W1 rx⟩
    · exact p1.elim
theorem pp_orV (h : PE X a (tP X.K E fa)) (h2 : PE X (.BoolOp .Or (b :: rest) pos) (tP X.K E fb)) : PE X (.BoolOp .Or (a :: b :: rest) pos) (tP X.K E (fOrV fa fb)) :=
  pe_imp (pe_orT h h2) fun σ H Q ⟨ρ, m, F, α, W, R, p⟩ => tP_bind W R p fun d m1 F1 α1 H1 x e1 W1 R1 rx p1 => by
    split at p1
    · rename_i hb; exact ⟨true, tru_of W1 rx hb, by rw [if_pos rfl]; exact p1.here W1 rx⟩
    · rename_i hb; exact ⟨false, tru_of W1 rx hb, by rw [if_neg Bool.false_ne_true]; exact ⟨ρ, m1, F1, α1, W1, R1, p1⟩⟩
    · exact p1.elim
theorem pp_one {op} (h : PE X a (tP X.K E fa)) : PE X (.BoolOp op [a] pos) (tP X.K E fa) := pe_one h
theorem pp_notV (h : PE X a (tP X.K E fa)) : PE X (.UnaryOp .Not a pos) (tP X.K E (fNotV fa)) :=
  pe_imp (pe_not h) fun σ H Q ⟨ρ, m, F, α, W, R, p⟩ => tP_bind W R p fun d m1 F1 α1 H1 x e1 W1 R1 rx p1 => by
    unfold oNotV at p1
    split at p1
    · cases rx
      exact ⟨_, rfl, p1.here W1 (.bl _)⟩
    · exact p1.elim
theorem pp_neg (h : PE X a (tP X.K E fa)) : PE X (.UnaryOp .USub a pos) (tP X.K E (fUn oNeg fa)) := pe_imp (pe_un oNegI h) fun σ H Q w => tUn_of p_neg w
theorem pp_ifx (hc : PT X c (tT X.K E tc)) (ha : PE X a (tP X.K E fa)) (hb : PE X b (tP X.K E fb)) : PE X (.IfExp c a b pos) (tP X.K E (fIf tc fa fb)) :=
  pe_imp (pe_ifExp hc ha hb) fun σ H Q ⟨ρ, m, F, α, W, R, p⟩ => tT_bind W R p fun d m1 F1 α1 H1 e1 W1 R1 p1 => by
    cases d with
    | true => rw [if_pos rfl] at p1 ⊢; exact ⟨ρ, m1, F1, α1, W1, R1, p1⟩
    | false => rw [if_neg Bool.false_ne_true] at p1 ⊢; exact ⟨ρ, m1, F1, α1, W1, R1, p1⟩
end
/-! ### subscripts, slices -/
def oIx (d e : P) (m : M) : Res P := match d, e with
  | .tup xs, .int i => match atI xs i with
    | some z => .ok z m
    | none => .stuck
  | .str z, .int i => if fits z.length = true then match atI z.cps.toList i with
    | some c => .ok (.str ⟨#[c]⟩) m
    | none => .stuck
    else .stuck
  | d, .int i => match lv m d with
    | some xs => match atI xs i with
      | some z => .ok z m
      | none => .stuck
    | none => .stuck
  | _, _ => .stuck
theorem Rps.atI {K F α H} {xs : List P} {vs : List V} {i : Int} {z : P} (r : Rps K F α H xs vs) (h : L2.atI xs i = some z) : ∃ w, L2.atI vs i = some w ∧ Rp K F α H z w := by
  unfold L2.atI at h ⊢
  rw [← r.length]
  cases hk : ixN xs.length i with
  | none => rw [hk] at h; cases h
  | some j =>
    rw [hk] at h
    exact r.get (show xs[j]? = some z from h)
theorem p_ix {K : PySem.W.Frag} : OpP K (rIx K) oIx := by
  intro F α m H d e x y Q E W rx ry p
  unfold oIx at p
  split at p
  · split at p
    · rename_i z hz
      cases ry
      obtain ⟨a, vs, rfl, f, e1, r1⟩ := tv_ok rx
      obtain ⟨w, h1, h2⟩ := r1.atI hz
      exact .inr (.inl ⟨a, vs, _, w, rfl, rfl, Evl.st_of e1, h1, p.here W h2⟩)
    · exact p.elim
  · obtain ⟨hf, p⟩ := iteG p
    split at p
    · rename_i c hc
      cases rx; cases ry
      exact .inr (.inr ⟨_, _, c, rfl, rfl, fits_ok hf, hc, p.here W (.str _)⟩)
    · exact p.elim
  · split at p
    · rename_i xs hx
      split at p
      · rename_i z hz
        cases ry
        obtain ⟨a, vs, rfl, e1, r1⟩ := lv_ok W rx hx
        obtain ⟨w, h1, h2⟩ := r1.atI hz
        exact .inl ⟨a, vs, _, w, rfl, rfl, e1, h1, p.here W h2⟩
      · exact p.elim
    · exact p.elim
  · exact p.elim
def cutL {β : Type} (xs : List β) (lo hi : Option Int) : List β := (xs.drop (HT.sIx xs.length 0 lo)).take (HT.sIx xs.length xs.length hi - HT.sIx xs.length 0 lo)
abbrev FO := Env → M → Res (Option Int)
def tO (K : PySem.W.Frag) (E : St → XK) (f : FO) : TO := fun σ H Q => ∃ ρ m F α, Wk K F α m H ∧ EnvR K F α H ρ σ ∧ Post K (fun _ _ _ b c => b = c) (f ρ m) F α H Q (E σ)
def fNoPart : FO := fun _ m => .ok none m
def fPart (fe : FE) : FO := fun ρ m => (fe ρ m).bind fun d m1 => match d with
  | .int i => .ok (some i) m1
  | _ => .stuck
def oSl (c : Bool) (d : P) (lo hi : Option Int) (m : M) : Res P := match d with
  | .tup xs => .ok (.tup (cutL xs lo hi)) m
  | .str z => if fits z.length = true then .ok (.str (cutS z lo hi)) m else .stuck
  | d => match lv m d with
    | some xs => mkL c (cutL xs lo hi) m
    | none => .stuck
def fSl (c : Bool) (fe : FE) (fl fh : FO) : FE := fun ρ m => (fe ρ m).bind fun d m1 => (fl ρ m1).bind fun l m2 => (fh ρ m2).bind fun h m3 => oSl c d l h m3
def oRev (c : Bool) (d : P) (m : M) : Res P := match lv m d with
  | some xs => mkL c xs.reverse m
  | none => .stuck
theorem Rps.cut {K F α H} {xs : List P} {vs : List V} (r : Rps K F α H xs vs) (lo hi : Option Int) : Rps K F α H (cutL xs lo hi) (cutV vs lo hi) := by
  unfold cutL cutV
  rw [← r.length]
  exact (r.drop _).take _
theorem cut_whole {β : Type} {xs : List β} {lo hi : Option Int} (h : HT.sIx xs.length 0 lo = 0 ∧ HT.sIx xs.length xs.length hi = xs.length) : cutL xs lo hi = xs := by
  unfold cutL
  rw [h.1, h.2]
  simp
def rSl3 (K : PySem.W.Frag) : V → Option Int → Option Int → Hp → VK → Prop := fun x lo hi H Q => rSlL K x lo hi H Q ∨ rSlA K x lo hi H Q ∨ rSlS x lo hi H Q
section
variable {X : Cx} {E : St → XK} {a b c e o : Expr} {lo hi : Option Expr} {pos p2 apos cpos p : Pos} {fa fb fc fo : FE} {fl fh : FO}
theorem pp_ix (ha : PE X a (tP X.K E fa)) (hb : PE X b (tP X.K E fb)) (hs : PlainIx b) : PE X (.Subscript a b pos) (tP X.K E (fOp oIx fa fb)) := pe_imp (pe_ix ix_seq ha hb hs) fun σ H Q w => tOp_of p_ix w
theorem pp_nopart : PO X none (tO X.K E fNoPart) := ⟨fun pins s σ H Q I ⟨ρ, m, F, α, W, R, p⟩ => po_none.run pins s σ H Q I (p.here W rfl)⟩
theorem pp_part (h : PE X e (tP X.K E fa)) : PO X (some e) (tO X.K E (fPart fa)) := ⟨fun pins s σ H Q I ⟨ρ, m, F, α, W, R, p⟩ => (po_some h).run pins s σ H Q I (tP_bind W R p fun d m1 F1 α1 H1 x e1 W1 R1 rx p1 => by
  split at p1
  · cases rx
    exact ⟨_, rfl, p1.here W1 rfl⟩
  · exact p1.elim)⟩
theorem sl_3 : SlR X (rSl3 X.K) := sl_list.or (sl_tupA.or sl_str)
theorem p_sl (cc : Bool) {K : PySem.W.Frag} {F α m H d x lo hi Q} {E : XK} (W : Wk K F α m H) (rx : Rp K F α H d x) (p : Post K (VR K) (oSl cc d lo hi m) F α H Q E) : rSl3 K x lo hi H Q := by
  unfold oSl at p
  split at p
  · rename_i xs
    obtain ⟨a, vs, rfl, f, e1, r1⟩ := tv_ok rx
    have hl := r1.length
    refine .inr (.inl ⟨a, vs, rfl, Evl.st_of e1, fun h => ?_, fun _ p' hp => p.mkT W (r1.cut lo hi) hp⟩)
    rw [← hl] at h
    rw [cut_whole h] at p
    exact p.here W (.tup f e1 r1)
  · obtain ⟨hf, p⟩ := iteG p
    cases rx
    exact .inr (.inr ⟨_, rfl, fits_ok hf, p.here W (.str _)⟩)
  · split at p
    · rename_i xs hx
      obtain ⟨a, vs, rfl, e1, r1⟩ := lv_ok W rx hx
      exact .inl ⟨a, vs, rfl, e1, fun p' hp => p.mkL W (r1.cut lo hi) hp⟩
    · exact p.elim
theorem pp_slice (cc : Bool) (he : PE X e (tP X.K E fa)) (hl : PO X lo (tO X.K E fl)) (hh : PO X hi (tO X.K E fh)) : PE X (.Subscript e (.Slice lo hi none p2) pos) (tP X.K E (fSl cc fa fl fh)) :=
  pe_imp (pe_slice sl_3 he hl hh) fun σ H Q ⟨ρ, m, F, α, W, R, p⟩ => tP_bind W R p fun d m1 F1 α1 H1 x e1 W1 R1 rx p1 =>
    ⟨ρ, m1, F1, α1, W1, R1, Post.bind p1 fun l m2 F2 α2 H2 l' e2 W2 rl p2 => by
      cases rl
      exact ⟨ρ, m2, F2, α2, W2, R1.mono W1.nf e2, Post.bind p2 fun h m3 F3 α3 H3 h' e3 W3 rh p3 => by
        cases rh
        exact p_sl cc W3 ((rx.mono W1.nf e2).mono W2.nf e3) p3⟩⟩
theorem pp_rev (cc : Bool) {k : Nat} {p1 p2 p3 : Pos} (he : PE X e (tP X.K E fa)) : PE X (.Subscript e (.Slice none none (some (.UnaryOp .USub (.Constant (.int 1) k p1) p2)) p3) pos) (tP X.K E (fUn (oRev cc) fa)) :=
  pe_imp (pe_revL he) fun σ H Q ⟨ρ, m, F, α, W, R, p⟩ => tP_bind W R p fun d m1 F1 α1 H1 x e1 W1 R1 rx p1 => by
    unfold oRev at p1
    split at p1
    · rename_i xs hx
      obtain ⟨a, vs, rfl, e1, r1⟩ := lv_ok W1 rx hx
      exact ⟨a, vs, rfl, e1, fun p' hp => p1.mkL W1 r1.reverse hp⟩
    · exact p1.elim
end
/-! ### built-in calls -/
def oLen (ds : List P) (m : M) : Res P := match ds with
  | [.tup xs] => .ok (.int (xs.length : Int)) m
  | [.str z] => if fits z.length = true then .ok (.int (z.length : Int)) m else .stuck
  | [.cell n] => match m[n]? with
    | some (.lst xs) => .ok (.int (xs.length : Int)) m
    | some (.dK kvs) => .ok (.int (kvs.length : Int)) m
    | _ => .stuck
  | [.dK kvs] => .ok (.int (kvs.length : Int)) m
  | [d] => match lv m d with
    | some xs => .ok (.int (xs.length : Int)) m
    | none => .stuck
  | _ => .stuck
def rLen3 (K : PySem.W.Frag) : List V → Hp → VK → Prop := fun xs H Q => rLenQ K xs H Q ∨ rLenD xs H Q ∨ rLenT xs H Q
def oList (c : Bool) (ds : List P) (m : M) : Res P := match ds with
  | [.tup xs] => mkL c xs m
  | [d] => match lv m d with
    | some xs => mkL c xs m
    | none => .stuck
  | _ => .stuck
def oTuple (ds : List P) (m : M) : Res P := match ds with
  | [.tup xs] => .ok (.tup xs) m
  | [d] => match lv m d with
    | some xs => .ok (.tup xs) m
    | none => .stuck
  | _ => .stuck
def oInt (ds : List P) (m : M) : Res P := match ds with
  | [.int i] => .ok (.int i) m
  | [.bl b] => .ok (.int (if b then 1 else 0)) m
  | _ => .stuck
def oAbs (ds : List P) (m : M) : Res P := match ds with
  | [.int i] => .ok (.int (if i < 0 then -i else i)) m
  | _ => .stuck
def oOrd (ds : List P) (m : M) : Res P := match ds with
  | [.str x] => if x.length = 1 then .ok (.int (x.cps.getD 0 0 : Nat)) m else .stuck
  | _ => .stuck
def kindP (m : M) : P → Option String
  | .non => some "NoneType"
  | .bl _ => some "bool"
  | .int _ => some "int"
  | .str _ => some "str"
  | .tup _ => some "tuple"
  | .lst _ => some "list"
  | .dK _ => some "dict"
  | .dT _ => some "dict"
  | .cell n => match m[n]? with
    | some (.lst _) => some "list"
    | some (.dK _) => some "dict"
    | some (.dT _) => some "dict"
    | _ => none
  | _ => none
def oIsi (ds : List P) (m : M) : Res P := match ds with
  | [d, .ty n] => match kindP m d with
    | some k => match kitB k n with
      | some b => .ok (.bl b) m
      | none => .stuck
    | none => .stuck
  | _ => .stuck
theorem Rps.two {K F α H} {a b : P} {xs : List V} (r : Rps K F α H [a, b] xs) : ∃ v w, xs = [v, w] ∧ Rp K F α H a v ∧ Rp K F α H b w := by
  cases r with
  | cons r1 rr => cases rr with
    | cons r2 rr => cases rr; exact ⟨_, _, rfl, r1, r2⟩
theorem Rps.only {K F α H} {a : P} {xs : List V} (r : Rps K F α H [a] xs) : ∃ v, xs = [v] ∧ Rp K F α H a v := by
  cases r with
  | cons r1 rr => cases rr; exact ⟨_, rfl, r1⟩
theorem map_len {α β γ : Type} {f : α → γ} {g : β → γ} {a : List α} {b : List β} (h : a.map f = b.map g) : b.length = a.length := by
  have := congrArg List.length h
  simpa using this.symm
section
variable {K : PySem.W.Frag}
theorem kind_of {F α m H d v k} (W : Wk K F α m H) (r : Rp K F α H d v) (h : kindP m d = some k) : TyX K H v (.type k) := by
  cases r with
  | non => simp only [kindP, Option.some.injEq] at h; subst h; exact .base .non
  | bl b => simp only [kindP, Option.some.injEq] at h; subst h; exact .base (.bl b)
  | int b => simp only [kindP, Option.some.injEq] at h; subst h; exact .base (.int b)
  | str b => simp only [kindP, Option.some.injEq] at h; subst h; exact .base (.str b)
  | tup h1 h2 h3 => simp only [kindP, Option.some.injEq] at h; subst h; exact .base (.tup h2)
  | lst h1 h2 h3 => simp only [kindP, Option.some.injEq] at h; subst h; exact .base (.lst h2)
  | dK h1 h2 h3 => simp only [kindP, Option.some.injEq] at h; subst h; exact .base (.dK h2)
  | dT h1 h2 h3 => simp only [kindP, Option.some.injEq] at h; subst h; exact .base (.dT h2)
  | @cell n a ha =>
    simp only [kindP] at h
    split at h <;> first
      | (rename_i hn
         cases h
         obtain ⟨o, ho, hc⟩ := W.at_ n _ a hn ha
         cases o <;> first | exact hc.elim | exact .base (.lst ho) | exact .base (.dK ho) | exact .base (.dT ho))
      | cases h
  | _ => simp [kindP] at h
theorem p_isi : CallP K (rIsi K) oIsi := by
  intro F α m H d x Q E W rx p
  unfold oIsi at p
  split at p
  · rename_i d n
    obtain ⟨v, w, rfl, r1, r2⟩ := rx.two
    cases r2
    split at p
    · rename_i k hk
      split at p
      · rename_i b hb
        exact ⟨v, .ty n, .type k, .type n, b, rfl, .ty n, kind_of W r1 hk, kit_ty hb, p.here W (.bl _)⟩
      · exact p.elim
    · exact p.elim
  · exact p.elim
theorem p_len : CallP K (rLen3 K) oLen := by
  intro F α m H d x Q E W rx p
  have lst : ∀ d xs, Rps K F α H [d] x → lv m d = some xs → Post K (VR K) (.ok (.int (xs.length : Int)) m) F α H Q E → rLen3 K x H Q := fun d xs rx hx p => by
    obtain ⟨v, rfl, r1⟩ := rx.only
    obtain ⟨a, vs, rfl, e1, r2⟩ := lv_ok W r1 hx
    exact .inl ⟨a, vs, rfl, .inl e1, by rw [← r2.length]; exact p.here W (.int _)⟩
  unfold oLen at p
  split at p
  · obtain ⟨v, rfl, r1⟩ := rx.only
    obtain ⟨a, vs, rfl, f, e1, r2⟩ := tv_ok r1
    exact .inl ⟨a, vs, rfl, .inr (Evl.st_of e1), by rw [← r2.length]; exact p.here W (.int _)⟩
  · obtain ⟨hf, p⟩ := iteG p
    obtain ⟨v, rfl, r1⟩ := rx.only
    cases r1
    exact .inr (.inr ⟨_, rfl, fits_ok hf, p.here W (.int _)⟩)
  · rename_i n
    split at p
    · rename_i xs hn
      exact lst _ xs rx (by simp only [lv, hn]) p
    · rename_i kvs hn
      obtain ⟨v, rfl, r1⟩ := rx.only
      cases r1
      rename_i a ha
      obtain ⟨o, ho, hc⟩ := W.at_ n _ a hn ha
      cases o <;> first | exact hc.elim | skip
      exact .inr (.inl ⟨a, _, rfl, ho, by rw [map_len hc.1]; exact p.here W (.int _)⟩)
    · exact p.elim
  · obtain ⟨v, rfl, r1⟩ := rx.only
    cases r1
    rename_i h1 h2 h3 h4
    exact .inr (.inl ⟨_, _, rfl, h2, by rw [map_len h3]; exact p.here W (.int _)⟩)
  · split at p
    · rename_i xs hx
      exact lst _ xs rx hx p
    · exact p.elim
  · exact p.elim
theorem p_list (c : Bool) : CallP K (rListQ K) (oList c) := by
  intro F α m H d x Q E W rx p
  unfold oList at p
  split at p
  · obtain ⟨v, rfl, r1⟩ := rx.only
    obtain ⟨a, vs, rfl, f, e1, r2⟩ := tv_ok r1
    exact ⟨a, vs, rfl, .inr (Evl.st_of e1), fun p' hp => p.mkL W r2 hp⟩
  · split at p
    · rename_i xs hx
      obtain ⟨v, rfl, r1⟩ := rx.only
      obtain ⟨a, vs, rfl, e1, r2⟩ := lv_ok W r1 hx
      exact ⟨a, vs, rfl, .inl e1, fun p' hp => p.mkL W r2 hp⟩
    · exact p.elim
  · exact p.elim
theorem p_tuple : CallP K (rTupQ K) oTuple := by
  intro F α m H d x Q E W rx p
  unfold oTuple at p
  split at p
  · obtain ⟨v, rfl, r1⟩ := rx.only
    obtain ⟨a, vs, rfl, f, e1, r2⟩ := tv_ok r1
    exact ⟨a, vs, rfl, .inr ⟨Evl.st_of e1, p.here W (.tup f e1 r2)⟩⟩
  · split at p
    · rename_i xs hx
      obtain ⟨v, rfl, r1⟩ := rx.only
      obtain ⟨a, vs, rfl, e1, r2⟩ := lv_ok W r1 hx
      exact ⟨a, vs, rfl, .inl ⟨e1, fun p' hp => p.mkT W r2 hp⟩⟩
    · exact p.elim
  · exact p.elim
theorem p_int : CallP K rInt1 oInt := by
  intro F α m H d x Q E W rx p
  unfold oInt at p
  split at p
  · obtain ⟨v, rfl, r1⟩ := rx.only
    cases r1
    exact .inl ⟨_, rfl, p.here W (.int _)⟩
  · obtain ⟨v, rfl, r1⟩ := rx.only
    cases r1
    exact .inr ⟨_, rfl, p.here W (.int _)⟩
  · exact p.elim
theorem p_abs : CallP K rAbs1 oAbs := by
  intro F α m H d x Q E W rx p
  unfold oAbs at p
  split at p
  · obtain ⟨v, rfl, r1⟩ := rx.only
    cases r1
    exact ⟨_, rfl, p.here W (.int _)⟩
  · exact p.elim
theorem p_ord : CallP K rOrd1 oOrd := by
  intro F α m H d x Q E W rx p
  unfold oOrd at p
  split at p
  · obtain ⟨hf, p⟩ := iteG p
    obtain ⟨v, rfl, r1⟩ := rx.only
    cases r1
    exact ⟨_, rfl, hf, p.here W (.int _)⟩
  · exact p.elim
end
section
variable {X : Cx} {E : St → XK} {e : Expr} {es : List Expr} {pos p : Pos} {fr : FA} {x : Str}
theorem pp_callB {id : String} {r : List V → Hp → VK → Prop} {o : List P → M → Res P} (hc : CallR X (.builtin id) r) (ho : CallP X.K r o) (hg : Gl X x) (hm : X.mg x = none) (hv : bootBuiltins x = some (.builtin id)) (ha : PA X (e :: es) (tA X.K E fr)) (hn : x ≠ "__name__" := by decide) (hdb : (x == ("__debug__" : Str)) = false := by decide)
    (he : starEach (e :: es) X.env = (false, eval e X.env) :: starEach es X.env := by rfl) (hpl : (backTo pos (starEach es X.env)).any (·.1) = false := by rfl) : PE X (.Call (.Name x p) (e :: es) [] pos) (tP X.K E (fCall o fr)) :=
  pe_imp (pe_callB hc hg hm hv ha hn hdb he hpl) fun σ H Q w => tCB_of ho w
theorem pp_callT {T : String} {r : List V → Hp → VK → Prop} {o : List P → M → Res P} (hc : CallR X (.type T) r) (ho : CallP X.K r o) (hg : Gl X x) (hm : X.mg x = none) (hv : bootBuiltins x = some (.type T)) (ha : PA X (e :: es) (tA X.K E fr)) (hn : x ≠ "__name__" := by decide) (hdb : (x == ("__debug__" : Str)) = false := by decide)
    (he : starEach (e :: es) X.env = (false, eval e X.env) :: starEach es X.env := by rfl) (hpl : (backTo pos (starEach es X.env)).any (·.1) = false := by rfl) : PE X (.Call (.Name x p) (e :: es) [] pos) (tP X.K E (fCall o fr)) :=
  pe_imp (pe_callTy hc hg hm hv ha hn hdb he hpl) fun σ H Q w => tCB_of ho w
theorem c_len3 : CallR X (.builtin "len") (rLen3 X.K) := CallR.alt cLenQ (CallR.alt cLenD cLenT)
end
end
/-! N4 -/
section
open PySem PySem.Spec PyProof.Rows
/-! ### targets -/
mutual
inductive Tg where
  | name (i : Nat)
  | tup (ts : TgL)
inductive TgL where
  | nil
  | cons (t : Tg) (r : TgL)
end
def TgL.len : TgL → Nat
  | .nil => 0
  | .cons _ r => r.len + 1
mutual
def Tg.put : Tg → P → Env → Option Env
  | .name i, d, ρ => some (ρ.set i (some d))
  | .tup ts, d, ρ => match d with
    | .tup xs => ts.puts xs ρ
    | _ => none
def TgL.puts : TgL → List P → Env → Option Env
  | .nil, [], ρ => some ρ
  | .nil, _ :: _, _ => none
  | .cons _ _, [], _ => none
  | .cons t r, x :: xs, ρ => match t.put x ρ with
    | some ρ1 => r.puts xs ρ1
    | none => none
end
mutual
def Tg.rd (K : PySem.W.Frag) : Tg → TG
  | .name i => gName i
  | .tup ts => gTup K ts.len (ts.rds K)
def TgL.rds (K : PySem.W.Frag) : TgL → TGs
  | .nil => gNil
  | .cons t r => gCons (t.rd K) (r.rds K)
end
mutual
def Tg.slots : Tg → List Nat
  | .name i => [i]
  | .tup ts => ts.slotss
def TgL.slotss : TgL → List Nat
  | .nil => []
  | .cons t r => t.slots ++ r.slotss
end
theorem EnvR.set {K F α H} {ρ : Env} {σ : St} {d : P} {v : V} (h : EnvR K F α H ρ σ) (r : Rp K F α H d v) (i : Nat) : EnvR K F α H (ρ.set i (some d)) (σ.set i (some v)) := by
  refine ⟨by rw [List.length_set, List.length_set]; exact h.1, fun j e he => ?_⟩
  by_cases hj : i = j
  · subst hj
    by_cases hl : i < ρ.length
    · rw [List.getElem?_set_self hl] at he
      cases he
      exact ⟨v, by rw [List.getElem?_set_self (by rw [← h.1]; exact hl)], r⟩
    · rw [List.getElem?_eq_none (by rw [List.length_set]; omega)] at he; cases he
  · rw [List.getElem?_set_ne hj] at he ⊢
    exact h.2 j e he
mutual
theorem Tg.sound {K F α H} : ∀ (t : Tg) {d : P} {v : V} {ρ ρ' : Env} {σ : St} {G : St → Hp → Prop}, EnvR K F α H ρ σ → Rp K F α H d v → t.put d ρ = some ρ' →
    (∀ σ', EnvR K F α H ρ' σ' → (∀ j, j ∉ t.slots → σ'[j]? = σ[j]?) → σ'.length = σ.length → G σ' H) → t.rd K v σ H G
  | .name i, d, v, ρ, ρ', σ, G, R, r, h, g => by
    simp only [Tg.put, Option.some.injEq] at h
    subst h
    refine g _ (R.set r i) (fun j hj => ?_) (List.length_set ..)
    rw [Tg.slots, List.mem_singleton] at hj
    exact List.getElem?_set_ne (fun e => hj e.symm)
  | .tup ts, d, v, ρ, ρ', σ, G, R, r, h, g => by
    cases d <;> simp only [Tg.put] at h <;> try cases h
    obtain ⟨a, vs, rfl, f, e1, r1⟩ := tv_ok r
    have hl : vs.length = ts.len := by rw [← r1.length]; exact TgL.put_len ts h
    exact ⟨a, vs, rfl, Evl.st_of e1, hl, TgL.sound ts R r1 h g⟩
theorem TgL.put_len : ∀ (t : TgL) {d : List P} {ρ ρ' : Env}, t.puts d ρ = some ρ' → d.length = t.len
  | .nil, [], _, _, _ => rfl
  | .nil, _ :: _, _, _, h => by simp [TgL.puts] at h
  | .cons t r, [], _, _, h => by simp [TgL.puts] at h
  | .cons t r, x :: xs, ρ, ρ', h => by
    simp only [TgL.puts] at h
    split at h
    · show xs.length + 1 = r.len + 1
      rw [TgL.put_len r h]
    · cases h
theorem TgL.sound {K F α H} : ∀ (t : TgL) {d : List P} {v : List V} {ρ ρ' : Env} {σ : St} {G : St → Hp → Prop}, EnvR K F α H ρ σ → Rps K F α H d v → t.puts d ρ = some ρ' →
    (∀ σ', EnvR K F α H ρ' σ' → (∀ j, j ∉ t.slotss → σ'[j]? = σ[j]?) → σ'.length = σ.length → G σ' H) → t.rds K v σ H G
  | .nil, [], v, ρ, ρ', σ, G, R, r, h, g => by
    cases r
    simp only [TgL.puts, Option.some.injEq] at h
    subst h
    exact ⟨rfl, g σ R (fun _ _ => rfl) rfl⟩
  | .nil, _ :: _, v, ρ, ρ', σ, G, R, r, h, g => by simp [TgL.puts] at h
  | .cons t tr, [], v, ρ, ρ', σ, G, R, r, h, g => by simp [TgL.puts] at h
  | .cons t tr, x :: xs, v, ρ, ρ', σ, G, R, r, h, g => by
    simp only [TgL.puts] at h
    split at h
    · rename_i ρ1 h1
      cases r with
      | cons r1 rr =>
        refine ⟨_, _, rfl, Tg.sound t R r1 h1 fun σ1 R1 a1 l1 => TgL.sound tr R1 rr h fun σ2 R2 a2 l2 => g σ2 R2 (fun j hj => ?_) (l2.trans l1)⟩
        rw [TgL.slotss, List.mem_append, not_or] at hj
        rw [a2 j hj.2, a1 j hj.1]
    · cases h
end
/-! ### statements -/
def fAsg (g : Tg) (fe : FE) : FS := fun ρ m => (fe ρ m).outs ρ fun d m1 => match g.put d ρ with
  | some ρ' => .nx ρ' m1
  | none => .stuck
def fDrop (fe : FE) : FS := fun ρ m => (fe ρ m).outs ρ fun _ m1 => .nx ρ m1
def fRet (fe : FE) : FS := fun ρ m => (fe ρ m).outs ρ fun d m1 => .rt d m1
def fRetN : FS := fun _ m => .rt .non m
def fNext : FS := fun ρ m => .nx ρ m
def fBrk : FS := fun ρ m => .bk ρ m
def fCont : FS := fun ρ m => .ct ρ m
def fSeq (f g : FS) : FS := fun ρ m => match f ρ m with
  | .nx ρ1 m1 => g ρ1 m1
  | o => o
def fIfS (c : FT) (f g : FS) : FS := fun ρ m => (c ρ m).outs ρ fun b m1 => if b = true then f ρ m1 else g ρ m1
def oSet (d i v : P) (m : M) : Option M := match d, i with
  | .cell n, .int k => match m[n]? with
    | some (.lst xs) => match ixN xs.length k with
      | some j => some (m.set n (.lst (xs.set j v)))
      | none => none
    | _ => none
  | _, _ => none
def fSetS (fo fi fv : FE) : FS := fun ρ m => (fv ρ m).outs ρ fun v m1 => (fo ρ m1).outs ρ fun d m2 => (fi ρ m2).outs ρ fun i m3 => match oSet d i v m3 with
  | some m4 => .nx ρ m4
  | none => .stuck
def fAug (i : Nat) (o : P → P → M → Res P) (fe : FE) : FS := fun ρ m => match ρ[i]? with
  | some (some d) => (fe ρ m).outs ρ fun e m1 => (o d e m1).outs ρ fun z m2 => .nx (ρ.set i (some z)) m2
  | _ => .stuck
def oIxL (d e : P) (m : M) : Res P := match e with
  | .int i => match lv m d with
    | some xs => match atI xs i with
      | some z => .ok z m
      | none => .stuck
    | none => .stuck
  | _ => .stuck
def fAugS (fo fi : FE) (o : P → P → M → Res P) (fe : FE) : FS := fun ρ m => (fo ρ m).outs ρ fun d m1 => (fi ρ m1).outs ρ fun i m2 => (oIxL d i m2).outs ρ fun x m3 => (fe ρ m3).outs ρ fun e m4 => (o x e m4).outs ρ fun z m5 =>
  match oSet d i z m5 with
  | some m6 => .nx ρ m6
  | none => .stuck
def oPlus (d e : P) (m : M) : Res P := match d, e with
  | .int a, .int b => .ok (.int (a + b)) m
  | _, _ => .stuck
section
variable {X : Cx} {E : St → XK} {a b c e o i : Expr} {es : List Expr} {rest : List Stmt} {s : Stmt} {sa sb : List Stmt} {pos p2 apos cpos tpos p : Pos} {fa fb fc fo fi fv fe : FE} {tc : FT} {f g : FS} {x : Str} {tg : Expr} {t : Tg}
theorem pp_ret (h : PE X e (tP X.K E fe)) : PS X (.Return (some e) pos) (tS X.K E (fRet fe)) :=
  ps_imp (ps_ret h) fun D σ H ⟨ρ, m, F, α, W, R, p⟩ => tP_outs W R p fun d m1 F1 α1 H1 x e1 W1 R1 rx p1 => p1 _ _ _ _ Ex.refl W1 rx
theorem pp_retN : PS X (.Return none pos) (tS X.K E fRetN) := ps_imp ps_retN fun D σ H ⟨ρ, m, F, α, W, R, p⟩ => p _ _ _ _ Ex.refl W .non
theorem pp_pass : PS X (.Pass pos) (tS X.K E fNext) := ps_imp ps_pass fun D σ H ⟨ρ, m, F, α, W, R, p⟩ => p _ _ _ _ Ex.refl W R
theorem pp_brk : PS X (.Break pos) (tS X.K E fBrk) := ps_imp ps_break fun D σ H ⟨ρ, m, F, α, W, R, p⟩ => p _ _ _ _ Ex.refl W R
theorem pp_cont : PS X (.Continue pos) (tS X.K E fCont) := ps_imp ps_continue fun D σ H ⟨ρ, m, F, α, W, R, p⟩ => p _ _ _ _ Ex.refl W R
theorem pp_expr (h : PE X e (tP X.K E fe)) (hs : swapsWith e none pos.line X.env = pure false := by rfl) : PS X (.Expr e pos) (tS X.K E (fDrop fe)) :=
  ps_imp (ps_expr h hs) fun D σ H ⟨ρ, m, F, α, W, R, p⟩ => tP_outs W R p fun d m1 F1 α1 H1 x e1 W1 R1 rx p1 => p1 _ _ _ _ Ex.refl W1 R1
theorem pps_nil : PSs X [] (tS X.K E fNext) := pss_imp pss_nil fun D σ H ⟨ρ, m, F, α, W, R, p⟩ => p _ _ _ _ Ex.refl W R
theorem pps_one (h : PS X s (tS X.K E f)) : PSs X [s] (tS X.K E f) := pss_one h
theorem tSeq_of {K : PySem.W.Frag} {D σ H} (w : tS K E (fSeq f g) D σ H) : tSeq (tS K E f) (tS K E g) D σ H := by
  obtain ⟨ρ, m, F, α, W, R, p⟩ := w
  refine ⟨ρ, m, F, α, W, R, ?_⟩
  unfold fSeq at p
  cases h : f ρ m with
  | nx ρ1 m1 => rw [h] at p; exact fun σ1 F1 α1 H1 e1 W1 R1 => ⟨ρ1, m1, F1, α1, W1, R1, p.mono e1⟩
  | rt d m1 => rw [h] at p; exact p
  | bk ρ1 m1 => rw [h] at p; exact p
  | ct ρ1 m1 => rw [h] at p; exact p
  | exc c fs ρ1 m1 => rw [h] at p; exact p
  | stuck => rw [h] at p; exact p
theorem pps_cons (h : PS X s (tS X.K E f)) (h2 : PSs X rest (tS X.K E g)) : PSs X (s :: rest) (tS X.K E (fSeq f g)) := pss_imp (pss_cons h h2) fun D σ H w => tSeq_of w
theorem pp_if (hc : PT X c (tT X.K E tc)) (ha : PSs X sa (tS X.K E f)) (hb : PSs X sb (tS X.K E g)) : PS X (.If c sa sb pos) (tS X.K E (fIfS tc f g)) :=
  ps_imp (ps_if hc ha hb) fun D σ H ⟨ρ, m, F, α, W, R, p⟩ => tT_outs W R p fun d m1 F1 α1 H1 e1 W1 R1 p1 => by
    cases d with
    | true => rw [if_pos rfl] at p1 ⊢; exact ⟨ρ, m1, F1, α1, W1, R1, p1⟩
    | false => rw [if_neg Bool.false_ne_true] at p1 ⊢; exact ⟨ρ, m1, F1, α1, W1, R1, p1⟩
theorem asg_of {K : PySem.W.Frag} {D σ H} (w : tS K E (fAsg t fe) D σ H) : tAsg (tP K E fe) (t.rd K) D σ H := by
  obtain ⟨ρ, m, F, α, W, R, p⟩ := w
  refine tP_outs W R p fun d m1 F1 α1 H1 x e1 W1 R1 rx p1 => ?_
  split at p1
  · rename_i ρ' hp
    exact t.sound R1 rx hp fun σ' R' _ _ => p1 _ _ _ _ Ex.refl W1 R'
  · exact p1.elim
theorem pp_set {n : Nat} {pos' : Pos} (hN : X.N.Nodup) (hi : X.N[n]? = some x) (hx : Loc X.env.scope x) (he : PE X e (tP X.K E fe)) (hs : swapsWith e (some (.Name x pos')) pos.line X.env = pure false := by rfl) (hf : X.fn x = true ∨ X.env.scope.names.lookup x = some .local := by first | exact .inl rfl | exact .inr rfl | assumption) :
    PS X (.Assign [.Name x pos'] e pos) (tS X.K E (fAsg (.name n) fe)) := ps_imp (ps_set hN hi hx he hs hf) fun D σ H w => asg_of (t := .name n) w
theorem pp_asg (he : PE X e (tP X.K E fe)) (hg : PG X tg (t.rd X.K)) (hs : swapsWithSole [tg] e pos.line X.env = pure false := by rfl) (hw : swappedStores [tg] e X.env = pure none := by rfl)
    (h1 : (assignEach [tg] X.env).map (·.2) = [assign tg X.env] := by rfl) : PS X (.Assign [tg] e pos) (tS X.K E (fAsg t fe)) := ps_imp (ps_asg he hg hs hw h1) fun D σ H w => asg_of w
theorem setL_of {K : PySem.W.Frag} {F α m m' H d i v x y z G} (W : Wk K F α m H) (rx : Rp K F α H d x) (ry : Rp K F α H i y) (rz : Rp K F α H v z) (h : oSet d i v m = some m') (g : ∀ H', Ex F α H F α H' → Wk K F α m' H' → G H') : rSetL x y z H G := by
  unfold oSet at h
  split at h
  · rename_i n k
    split at h
    · rename_i xs hn
      split at h
      · rename_i j hj
        cases h
        cases rx
        cases ry
        rename_i a ha
        obtain ⟨o, ho, hc⟩ := W.at_ n _ a hn ha
        cases o <;> first | exact hc.elim | skip
        rename_i vs
        have hr : Rps K F α H xs vs := hc
        obtain ⟨e, W'⟩ := W.put ha (c := .lst (xs.set j v)) (o := .lst (vs.set j z)) (hr.set rz j)
        exact ⟨a, vs, k, j, rfl, rfl, ho, by rw [← hr.length]; exact hj, g _ e W'⟩
      · cases h
    · cases h
  · cases h
theorem tSub_of {K : PySem.W.Frag} {D σ H} (w : tS K E (fSetS fo fi fv) D σ H) : tAsg (tP K E fv) (gSub (tP K E fo) (tP K E fi) rSetL) D σ H := by
  obtain ⟨ρ, m, F, α, W, R, p⟩ := w
  refine tP_outs W R p fun d m1 F1 α1 H1 x e1 W1 R1 rx p1 => tP_outs W1 R1 p1 fun d2 m2 F2 α2 H2 y e2 W2 R2 ry p2 => tP_outs W2 R2 p2 fun d3 m3 F3 α3 H3 z e3 W3 R3 rz p3 => ?_
  split at p3
  · rename_i m4 h4
    exact setL_of W3 (ry.mono W2.nf e3) rz ((rx.mono W1.nf e2).mono W2.nf e3) h4 fun H' e' W' => p3 _ _ _ _ e' W' (R3.mono W3.nf e')
  · exact p3.elim
theorem pp_setS (ho : PE X o (tP X.K E fo)) (hi : PE X i (tP X.K E fi)) (he : PE X e (tP X.K E fv))
    (ha : ∀ v, assign (.Subscript o i tpos) X.env v = (do
      let ov ← holding [v] (eval o X.env)
      let iv ← holding [v, ov] (eval i X.env)
      standAt tpos
      holding [v, ov, iv] (setItem ov iv v)
      release [v, ov, iv] []) := by intro _; rfl) (hs : swapsWithSole [.Subscript o i tpos] e pos.line X.env = pure false := by rfl) (hw : swappedStores [.Subscript o i tpos] e X.env = pure none := by rfl)
    (h1 : (assignEach [.Subscript o i tpos] X.env).map (·.2) = [assign (.Subscript o i tpos) X.env] := by rfl) : PS X (.Assign [.Subscript o i tpos] e pos) (tS X.K E (fSetS fo fi fv)) :=
  ps_imp (ps_asg he (pg_sub ho hi set_list ha) hs hw h1) fun D σ H w => tSub_of w
theorem p_ipadd {K : PySem.W.Frag} : OpP K (ipI fun i j => i + j) oPlus := by
  intro F α m H d e x y Q E W rx ry p
  unfold oPlus at p
  split at p
  · cases rx; cases ry
    exact ⟨_, _, rfl, rfl, p.here W (.int _)⟩
  · exact p.elim
theorem p_ipsub {K : PySem.W.Frag} : OpP K (ipI fun i j => i - j) oSub := by
  intro F α m H d e x y Q E W rx ry p
  unfold oSub at p
  split at p
  · cases rx; cases ry
    exact ⟨_, _, rfl, rfl, p.here W (.int _)⟩
  · exact p.elim
theorem pp_aug {n : Nat} {op : Operator} {ti : TIp} {oo : P → P → M → Res P} {pos' : Pos} (hN : X.N.Nodup) (hi : X.N[n]? = some x) (hx : Loc X.env.scope x) (he : PE X e (tP X.K E fe)) (hr : PIp X op ti) (ho : OpP X.K ti oo)
    (hf : X.fn x = true ∨ X.env.scope.names.lookup x = some .local := by first | exact .inl rfl | exact .inr rfl | assumption) : PS X (.AugAssign (.Name x pos') op e pos) (tS X.K E (fAug n oo fe)) :=
  ps_imp (ps_aug hN hi hx he hr hf) fun D σ H ⟨ρ, m, F, α, W, R, p⟩ => by
    unfold fAug at p
    split at p
    · rename_i d hd
      obtain ⟨v, e1, r1⟩ := R.2 n d hd
      exact ⟨v, e1, tP_outs W R p fun d2 m1 F1 α1 H1 y e2 W1 R1 ry p1 => ho (E := E σ) W1 (r1.mono W.nf e2) ry (Post.outs W1 R1 p1 fun d3 m2 F2 α2 H2 z e3 W2 R2 rz p2 => p2 _ _ _ _ Ex.refl W2 (R2.set rz n))⟩
    · exact p.elim
theorem pp_augS {op : Operator} {ti : TIp} {oo : P → P → M → Res P} (ho : PE X o (tP X.K E fo)) (hi : PE X i (tP X.K E fi)) (he : PE X e (tP X.K E fe)) (hr : PIp X op ti) (hop : OpP X.K ti oo)
    (ha : ∀ ov iv new, augStore i ov iv new = (do holding [new, ov, iv] (setItem ov iv new); release [new, ov, iv] []; pure .next) := by intros; rfl) : PS X (.AugAssign (.Subscript o i tpos) op e pos) (tS X.K E (fAugS fo fi oo fe)) :=
  ps_imp (ps_augS ho hi get_list he hr set_list ha) fun D σ H ⟨ρ, m, F, α, W, R, p⟩ => tP_outs W R p fun d m1 F1 α1 H1 x e1 W1 R1 rx p1 => tP_outs W1 R1 p1 fun d2 m2 F2 α2 H2 y e2 W2 R2 ry p2 => by
    have rx2 := rx.mono W1.nf e2
    have key : ∀ {G : VK}, (∀ d3 m3 F3 α3 H3 z, Ex F2 α2 H2 F3 α3 H3 → Wk X.K F3 α3 m3 H3 → EnvR X.K F3 α3 H3 ρ σ → Rp X.K F3 α3 H3 d3 z → PostS X.K ((fe ρ m3).outs ρ fun e m4 => (oo d3 e m4).outs ρ fun z m5 => match oSet d d2 z m5 with
        | some m6 => .nx ρ m6
        | none => .stuck) F3 α3 H3 D E → G z H3) → rIxL X.K x y H2 G := fun {G} hk => by
      unfold oIxL at p2
      split at p2
      · split at p2
        · rename_i xs hx
          split at p2
          · rename_i zz hz
            cases ry
            obtain ⟨a, vs, rfl, e3, r3⟩ := lv_ok W2 rx2 hx
            obtain ⟨w, h1, h2⟩ := r3.atI hz
            exact ⟨a, vs, _, w, rfl, rfl, e3, h1, hk _ _ _ _ _ _ Ex.refl W2 R2 h2 p2⟩
          · exact p2.elim
        · exact p2.elim
      · exact p2.elim
    exact key fun d3 m3 F3 α3 H3 z e3 W3 R3 rz p3 => tP_outs W3 R3 p3 fun d4 m4 F4 α4 H4 u e4 W4 R4 ru p4 => hop (E := E σ) W4 (rz.mono W3.nf e4) ru (Post.outs W4 R4 p4 fun d5 m5 F5 α5 H5 q e5 W5 R5 rq p5 => by
      split at p5
      · rename_i m6 h6
        exact setL_of W5 (((rx2.mono W2.nf e3).mono W3.nf e4).mono W4.nf e5) (((ry.mono W2.nf e3).mono W3.nf e4).mono W4.nf e5) rq h6 fun H' e' W' => p5 _ _ _ _ e' W' (R5.mono W5.nf e')
      · exact p5.elim)
end
end
/-! N5 -/
section
open PySem PySem.Spec PyProof.Rows
/-- what a loop walks: its items; the cells that must stay as they are -/
structure Src where
  items : List P
  chk : List (Nat × List P)
def chkOk (m : M) : List (Nat × List P) → Prop
  | [] => True
  | p :: r => m[p.1]? = some (.lst p.2) ∧ chkOk m r
noncomputable instance (m : M) (c : List (Nat × List P)) : Decidable (chkOk m c) := Classical.propDecidable _
abbrev FI := Env → M → Res Src
/-- the walk J yields these items -/
def ItP (K : PySem.W.Frag) (F : Addr → Prop) (α : List Addr) (H : Hp) (s : Src) (J : It) : Prop := ∀ F' α' m' H', Ex F α H F' α' H' → Wk K F' α' m' H' → chkOk m' s.chk →
  (∀ i d, s.items[i]? = some d → J.go i H' ∧ ∀ x H'', J.yld i H' x H'' → ∃ F'', Ex F' α' H' F'' α' H'' ∧ Wk K F'' α' m' H'' ∧ Rp K F'' α' H'' d x) ∧ J.stop s.items.length H'
theorem ItP.mono {K F α H F' α' H' s J} (h : ItP K F α H s J) (e : Ex F α H F' α' H') : ItP K F' α' H' s J := fun F2 α2 m2 H2 e2 => h F2 α2 m2 H2 (e.trans e2)
def tI (K : PySem.W.Frag) (E : St → XK) (f : FI) : TI := fun σ H R => ∃ ρ m F α, Wk K F α m H ∧ EnvR K F α H ρ σ ∧ Post K (fun F α H s J => ItP K F α H s J) (f ρ m) F α H R (E σ)
/-! ### for -/
noncomputable def forG (g : Tg) (body : FS) (chk : List (Nat × List P)) : List P → Env → M → Out
  | [], ρ, m => if chkOk m chk then .nx ρ m else .stuck
  | x :: xs, ρ, m => if chkOk m chk then match g.put x ρ with
    | some ρ1 => match body ρ1 m with
      | .nx ρ2 m2 => forG g body chk xs ρ2 m2
      | .ct ρ2 m2 => forG g body chk xs ρ2 m2
      | .bk ρ2 m2 => .nx ρ2 m2
      | o => o
    | none => .stuck
    else .stuck
noncomputable def fFor (fi : FI) (g : Tg) (body : FS) : FS := fun ρ m => (fi ρ m).outs ρ fun s m1 => forG g body s.chk s.items ρ m1
theorem iteO {p : Prop} [Decidable p] {K F α H D E} {o : Out} (h : PostS K (if p then o else .stuck) F α H D E) : p ∧ PostS K o F α H D E := by
  by_cases hp : p
  · rw [if_pos hp] at h; exact ⟨hp, h⟩
  · rw [if_neg hp] at h; exact h.elim
section
variable {X : Cx} {E : St → XK} {a b c e o i it : Expr} {es : List Expr} {rest : List Stmt} {s : Stmt} {sa sb : List Stmt} {pos p2 apos cpos tpos p : Pos} {fa fb fc fo fi fv fe : FE} {tc : FT} {f g : FS} {x : Str} {tg : Expr} {t : Tg} {ff : FI}
theorem for_of {K : PySem.W.Frag} {D σ H} (w : tS K E (fFor ff t f) D σ H) : tFor (tI K E ff) (t.rd K) (tS K E f) D σ H := by
  obtain ⟨ρ, m, F, α, W, R, p⟩ := w
  refine ⟨ρ, m, F, α, W, R, Post.outs W R p fun s m1 F1 α1 H1 J e1 W1 R1 hJ p1 => ?_⟩
  refine ⟨fun i k σ' H' => k = s.items.length - i ∧ i ≤ s.items.length ∧ ∃ ρ' m' F' α', Ex F1 α1 H1 F' α' H' ∧ Wk K F' α' m' H' ∧ EnvR K F' α' H' ρ' σ' ∧ PostS K (forG t f s.chk (s.items.drop i) ρ' m') F' α' H' D E,
    ⟨s.items.length, by simp, Nat.zero_le _, ρ, m1, F1, α1, Ex.refl, W1, R1, by rw [List.drop_zero]; exact p1⟩, ?_⟩
  rintro i k σ' H' ⟨rfl, hi, ρ', m', F', α', e', W', R', p'⟩
  by_cases hlt : i < s.items.length
  · rw [List.drop_eq_getElem_cons hlt, forG] at p'
    obtain ⟨hc, p'⟩ := iteO p'
    obtain ⟨h1, h2⟩ := hJ F' α' m' H' e' W' hc
    obtain ⟨hgo, hy⟩ := h1 i _ (List.getElem?_eq_getElem hlt)
    split at p'
    · rename_i ρ1 hput
      refine .inr ⟨hgo, fun σ2 H2 => ∃ m2, m2 < s.items.length - i ∧ (m2 = s.items.length - (i + 1) ∧ i + 1 ≤ s.items.length ∧ ∃ ρ' m' F' α', Ex F1 α1 H1 F' α' H2 ∧ Wk K F' α' m' H2 ∧ EnvR K F' α' H2 ρ' σ2 ∧ PostS K (forG t f s.chk (s.items.drop (i + 1)) ρ' m') F' α' H2 D E), fun σ2 H2 h => h, fun xv H2 hyl => ?_⟩
      obtain ⟨F2, e2, W2, r2⟩ := hy xv H2 hyl
      refine t.sound (R'.mono W'.nf e2) r2 hput fun σ2 R2 _ _ => ⟨ρ1, m', F2, α', W2, R2, ?_⟩
      have p2 := p'.mono e2
      cases hb : f ρ1 m' with
      | nx ρ2 m2 =>
        rw [hb] at p2
        exact fun σ3 F3 α3 H3 e3 W3 R3 => ⟨_, by omega, rfl, hlt, ρ2, m2, F3, α3, e'.trans (e2.trans e3), W3, R3, p2.mono e3⟩
      | ct ρ2 m2 =>
        rw [hb] at p2
        exact fun σ3 F3 α3 H3 e3 W3 R3 => ⟨_, by omega, rfl, hlt, ρ2, m2, F3, α3, e'.trans (e2.trans e3), W3, R3, p2.mono e3⟩
      | bk ρ2 m2 =>
        rw [hb] at p2
        exact fun σ3 F3 α3 H3 e3 W3 R3 => p2 σ3 F3 α3 H3 e3 W3 R3
      | rt d m2 => rw [hb] at p2; exact p2
      | exc c fs ρ2 m2 => rw [hb] at p2; exact p2
      | stuck => rw [hb] at p2; exact p2.elim
    · exact p'.elim
  · have hi' : i = s.items.length := by omega
    subst hi'
    rw [List.drop_length, forG] at p'
    obtain ⟨hc, p'⟩ := iteO p'
    obtain ⟨h1, h2⟩ := hJ F' α' m' H' e' W' hc
    exact .inl ⟨h2, p' σ' _ _ _ Ex.refl W' R'⟩
theorem pp_for (hp : PassesOwn (model X.prog X.w) X.A X.env X.xe) (hc : X.calm = true) (hi : PI X tg it (tI X.K E ff)) (hg : PG X tg (t.rd X.K)) (hb : PSs X sa (tS X.K E f))
    (hs : ∀ x, foldedSetIterable it X.env x = pure x := by intro _; rfl) : PS X (.For tg it sa [] pos) (tS X.K E (fFor ff t f)) := ps_imp (ps_for hp hc hi hg hb hs) fun D σ H w => for_of w
/-! ### while -/
end
def whileG (c : FT) (body : FS) : Nat → Env → M → Out
  | 0, _, _ => .stuck
  | n + 1, ρ, m => (c ρ m).outs ρ fun b m1 => if b = true then match body ρ m1 with
      | .nx ρ2 m2 => whileG c body n ρ2 m2
      | .ct ρ2 m2 => whileG c body n ρ2 m2
      | .bk ρ2 m2 => .nx ρ2 m2
      | o => o
    else .nx ρ m1
/-- more turns than any loop here takes -/
def manyTurns : Nat := 1000000
def fWhile (c : FT) (body : FS) : FS := whileG c body manyTurns
section
variable {X : Cx} {E : St → XK} {c : Expr} {sa : List Stmt} {pos : Pos} {tc : FT} {f : FS}
theorem while_of {K : PySem.W.Frag} {D σ H} (w : tS K E (fWhile tc f) D σ H) : tWhile (tT K E tc) (tS K E f) D σ H := by
  obtain ⟨ρ, m, F, α, W, R, p⟩ := w
  refine ⟨fun k σ' H' => ∃ ρ' m' F' α', Wk K F' α' m' H' ∧ EnvR K F' α' H' ρ' σ' ∧ PostS K (whileG tc f k ρ' m') F' α' H' D E, ⟨manyTurns, ρ, m, F, α, W, R, p⟩, ?_⟩
  rintro k σ' H' ⟨ρ', m', F', α', W', R', p'⟩
  cases k with
  | zero => exact p'.elim
  | succ k =>
    rw [whileG] at p'
    refine tT_outs W' R' p' fun b m1 F1 α1 H1 e1 W1 R1 p1 => ?_
    cases b with
    | true =>
      rw [if_pos rfl] at p1 ⊢
      refine ⟨fun σ2 H2 => ∃ m2, m2 < k + 1 ∧ (m2 = k ∧ ∃ ρ' m' F' α', Wk K F' α' m' H2 ∧ EnvR K F' α' H2 ρ' σ2 ∧ PostS K (whileG tc f k ρ' m') F' α' H2 D E), fun σ2 H2 ⟨m2, h1, h2, h3⟩ => ⟨m2, h1, by subst h2; exact h3⟩, ρ', m1, F1, α1, W1, R1, ?_⟩
      cases hb : f ρ' m1 with
      | nx ρ2 m2 =>
        rw [hb] at p1
        exact fun σ3 F3 α3 H3 e3 W3 R3 => ⟨k, by omega, rfl, ρ2, m2, F3, α3, W3, R3, p1.mono e3⟩
      | ct ρ2 m2 =>
        rw [hb] at p1
        exact fun σ3 F3 α3 H3 e3 W3 R3 => ⟨k, by omega, rfl, ρ2, m2, F3, α3, W3, R3, p1.mono e3⟩
      | bk ρ2 m2 =>
        rw [hb] at p1
        exact fun σ3 F3 α3 H3 e3 W3 R3 => p1 σ3 F3 α3 H3 e3 W3 R3
      | rt d m2 => rw [hb] at p1; exact p1
      | exc c fs ρ2 m2 => rw [hb] at p1; exact p1
      | stuck => rw [hb] at p1; exact p1.elim
    | false =>
      rw [if_neg Bool.false_ne_true] at p1 ⊢
      exact p1 _ _ _ _ Ex.refl W1 R1
theorem pp_while (hp : PassesOwn (model X.prog X.w) X.A X.env X.xe) (hc : PT X c (tT X.K E tc)) (hb : PSs X sa (tS X.K E f)) : PS X (.While c sa [] pos) (tS X.K E (fWhile tc f)) := ps_imp (ps_while hp hc hb) fun D σ H w => while_of w
end
/-! ### comprehensions -/
def wipeP (ρ : Env) : List Nat → Env
  | [] => ρ
  | v :: vs => (wipeP ρ vs).set v none
/-- nothing is raised here -/
def Res.calm {β : Type} (r : Res β) : Res β := match r with
  | .ok d m => .ok d m
  | _ => .stuck
noncomputable def lcG (g : Tg) (tt : FT) (te : FE) (chk : List (Nat × List P)) (ρ : Env) : List P → M → Res (List P)
  | [], m => if chkOk m chk then .ok [] m else .stuck
  | x :: xs, m => if chkOk m chk then match g.put x ρ with
    | some ρ1 => (tt ρ1 m).calm.bind fun b m1 => if b = true then (te ρ1 m1).calm.bind fun y m2 => (lcG g tt te chk ρ xs m2).bind fun ys m3 => .ok (y :: ys) m3 else lcG g tt te chk ρ xs m1
    | none => .stuck
    else .stuck
noncomputable def fLc (cc : Bool) (fi : FI) (g : Tg) (tt : FT) (te : FE) (vs : List Nat) : FE := fun ρ m => (fi ρ m).bind fun s m1 => if fits s.items.length = true then (lcG g tt te s.chk (wipeP ρ vs) s.items m1).bind fun ys m2 => mkL cc ys m2 else .stuck
def fYes : FT := fun _ m => .ok true m
theorem wipe_get (σ : St) : ∀ (vs : List Nat) (j : Nat), (wipe σ vs)[j]? = if j ∈ vs then (if j < σ.length then some none else none) else σ[j]?
  | [], j => by simp [wipe]
  | v :: vs, j => by
    have hl : (wipe σ vs).length = σ.length := by
      clear j
      induction vs with
      | nil => rfl
      | cons v vs ih => rw [wipe, List.length_set, ih]
    rw [wipe, List.getElem?_set, hl, wipe_get σ vs j]
    by_cases h : v = j
    · subst h
      simp
    · have h' : ¬ j = v := fun e => h e.symm
      simp [h, h']
theorem wipe_len (σ : St) (vs : List Nat) : (wipe σ vs).length = σ.length := by
  induction vs with
  | nil => rfl
  | cons v vs ih => rw [wipe, List.length_set, ih]
theorem wipe_ext {σ σ' : St} {vs : List Nat} (hl : σ'.length = σ.length) (h : ∀ j, j ∉ vs → σ'[j]? = σ[j]?) : wipe σ' vs = wipe σ vs := by
  apply List.ext_getElem?
  intro j
  rw [wipe_get, wipe_get, hl]
  by_cases hj : j ∈ vs
  · rw [if_pos hj, if_pos hj]
  · rw [if_neg hj, if_neg hj, h j hj]
theorem wipe_idem (σ : St) (vs : List Nat) : wipe (wipe σ vs) vs = wipe σ vs := wipe_ext (wipe_len σ vs) fun j hj => by rw [wipe_get, if_neg hj]
theorem wipeP_eq (ρ : Env) : ∀ (vs : List Nat) (j : Nat), (wipeP ρ vs)[j]? = if j ∈ vs then (if j < ρ.length then some none else none) else ρ[j]?
  | [], j => by simp [wipeP]
  | v :: vs, j => by
    have hl : (wipeP ρ vs).length = ρ.length := by
      clear j
      induction vs with
      | nil => rfl
      | cons v vs ih => rw [wipeP, List.length_set, ih]
    rw [wipeP, List.getElem?_set, hl, wipeP_eq ρ vs j]
    by_cases h : v = j
    · subst h
      simp
    · have h' : ¬ j = v := fun e => h e.symm
      simp [h, h']
theorem wipeP_len (ρ : Env) (vs : List Nat) : (wipeP ρ vs).length = ρ.length := by
  induction vs with
  | nil => rfl
  | cons v vs ih => rw [wipeP, List.length_set, ih]
theorem EnvR.wipe {K F α H ρ σ} (h : EnvR K F α H ρ σ) (vs : List Nat) : EnvR K F α H (wipeP ρ vs) (wipe σ vs) := by
  refine ⟨by rw [wipeP_len, wipe_len]; exact h.1, fun i d hd => ?_⟩
  rw [wipeP_eq] at hd
  by_cases hi : i ∈ vs
  · rw [if_pos hi] at hd
    split at hd <;> cases hd
  · rw [if_neg hi] at hd
    obtain ⟨v, h1, h2⟩ := h.2 i d hd
    exact ⟨v, by rw [wipe_get, if_neg hi]; exact h1, h2⟩
/-- .. what is wanted stays as of an earlier heap -/
theorem Post.bindB {β δ γ γ' : Type} {K} {RR : (Addr → Prop) → List Addr → Hp → β → γ → Prop} {R2 : (Addr → Prop) → List Addr → Hp → δ → γ' → Prop} {Q : γ' → Hp → Prop} {G : γ → Hp → Prop} {r : Res β} {k : β → M → Res δ} {F0 α0 H0 F α H} {E E' : XK}
    (h : Post K R2 (r.calm.bind k) F0 α0 H0 Q E) (hk : ∀ d m1 F1 α1 H1 x, Ex F α H F1 α1 H1 → Wk K F1 α1 m1 H1 → RR F1 α1 H1 d x → Post K R2 (k d m1) F0 α0 H0 Q E → G x H1) : Post K RR r F α H G E' := by
  cases r with
  | ok d m => exact fun v F' α' H' e W R => hk d m F' α' H' v e W R h
  | exc c fs m => exact h.elim
  | stuck => exact h
theorem Res.bind_bind {β γ δ : Type} (r : Res β) (f : β → M → Res γ) (g : γ → M → Res δ) : (r.bind f).bind g = r.bind fun b m => (f b m).bind g := by cases r <;> rfl
theorem Res.bind_calm {β γ δ : Type} (r : Res β) (f : β → M → Res γ) (g : γ → M → Res δ) : (r.calm.bind f).bind g = r.calm.bind fun b m => (f b m).bind g := Res.bind_bind _ _ _
section
variable {X : Cx} {E E' : St → XK} {ff : FI} {t : Tg} {ft : FT} {fe : FE} {vs : List Nat}
theorem lc_of {K : PySem.W.Frag} {cc : Bool} {σ H Q} (hv : ∀ j ∈ t.slots, j ∈ vs) (w : tP K E (fLc cc ff t ft fe vs) σ H Q) : tLc (tI K E ff) (t.rd K) (tT K E' ft) (tP K E' fe) vs σ H Q := by
  obtain ⟨ρ, m, F, α, W, R, p⟩ := w
  refine ⟨ρ, m, F, α, W, R, Post.bind p fun s m1 F1 α1 H1 J e1 W1 hJ p1 D hD => ?_⟩
  obtain ⟨hfit, p1⟩ := iteG p1
  have hn : s.items.length ≤ 100000 := of_decide_eq_true hfit
  have R1 : EnvR K F1 α1 H1 (wipeP ρ vs) (L2.wipe σ vs) := (R.mono W.nf e1).wipe vs
  have hDF : ¬ F1 D := fun q => by obtain ⟨o, ho⟩ := W1.fr D q; rw [hD] at ho; cases ho
  have hDα : D ∉ α1 := fun q => by obtain ⟨_, _, o, _, _, ho, _⟩ := W1.has q; rw [hD] at ho; cases ho
  refine ⟨fun i k H' => k = s.items.length - i ∧ i ≤ s.items.length ∧ ∃ acc av m' F' α', acc.length ≤ i ∧ Ex F1 α1 H1 F' α' H' ∧ Wk K F' α' m' H' ∧ H' D = some (.lst av) ∧ ¬ F' D ∧ D ∉ α' ∧ Rps K F' α' H' acc av ∧
      Post K (VR K) ((lcG t ft fe s.chk (wipeP ρ vs) (s.items.drop i) m').bind fun ys m2 => mkL cc (acc ++ ys) m2) F1 α1 H1 Q (E σ), ⟨s.items.length, by simp, Nat.zero_le _, [], [], m1, F1, α1, Nat.le_refl _, ?_, ?_, upd_same, hDF, hDα, .nil, by rw [List.drop_zero]; exact p1⟩, ?_⟩
  · exact ⟨fun _ h => h, ⟨[], (List.append_nil _).symm⟩, fun a u e _ => by rw [upd_ne (ne_of_none e hD)]; exact e, fun _ h n => absurd h n, fun _ _ h _ _ => h⟩
  · have e : Ex F1 α1 H1 F1 α1 (upd H1 D (.lst [])) := ⟨fun _ h => h, ⟨[], (List.append_nil _).symm⟩, fun a u e _ => by rw [upd_ne (ne_of_none e hD)]; exact e, fun _ h n => absurd h n, fun _ _ h _ _ => h⟩
    refine ⟨W1.len, W1.nd, W1.nf, fun a h => ?_, fun n c a hn ha => ?_⟩
    · obtain ⟨o, ho⟩ := W1.fr a h
      exact ⟨o, by rw [upd_ne (ne_of_none ho hD)]; exact ho⟩
    · obtain ⟨o, ho, hc⟩ := W1.at_ n c a hn ha
      exact ⟨o, by rw [upd_ne (ne_of_none ho hD)]; exact ho, hc.mono W1.nf e⟩
  rintro i k H' ⟨rfl, hi, acc, av, m', F', α', hacc, e', W', hD', hF', hα', ra, p'⟩
  by_cases hlt : i < s.items.length
  · rw [List.drop_eq_getElem_cons hlt, lcG] at p'
    by_cases hc : chkOk m' s.chk
    · rw [if_pos hc] at p'
      obtain ⟨h1, h2⟩ := hJ F' α' m' H' e' W' hc
      obtain ⟨hgo, hy⟩ := h1 i _ (List.getElem?_eq_getElem hlt)
      split at p'
      · rename_i ρ1 hput
        refine .inr ⟨hgo, fun H2 => ∃ m2, m2 < s.items.length - i ∧ (m2 = s.items.length - (i + 1) ∧ i + 1 ≤ s.items.length ∧ ∃ acc av m' F' α', acc.length ≤ i + 1 ∧ Ex F1 α1 H1 F' α' H2 ∧ Wk K F' α' m' H2 ∧ H2 D = some (.lst av) ∧ ¬ F' D ∧ D ∉ α' ∧ Rps K F' α' H2 acc av ∧
          Post K (VR K) ((lcG t ft fe s.chk (wipeP ρ vs) (s.items.drop (i + 1)) m').bind fun ys m2 => mkL cc (acc ++ ys) m2) F1 α1 H1 Q (E σ)), fun H2 h => h, fun xv H2 hyl => ?_⟩
        obtain ⟨F2, e2, W2, r2⟩ := hy xv H2 hyl
        have RR : EnvR K F2 α' H2 (wipeP ρ vs) (L2.wipe σ vs) := (R1.mono W1.nf e').mono W'.nf e2
        -- D stays as it is
        have stay : ∀ {F3 α3 H3 F4 α4 H4 av}, Ex F3 α3 H3 F4 α4 H4 → H3 D = some (.lst av) → ¬ F3 D → D ∉ α3 → H4 D = some (.lst av) ∧ ¬ F4 D ∧ D ∉ α4 := fun e h1 h2 h3 =>
          ⟨e.k D _ h1 h3, fun q => h2 (e.fn D _ q h1 h3), fun q => by have := e.new D q h3; rw [h1] at this; cases this⟩
        obtain ⟨d1, d2, d3⟩ := stay e2 hD' hF' hα'
        rw [Res.bind_calm] at p'
        refine t.sound RR r2 hput fun σ2 R2 ag l2 => ⟨(wipe_ext l2 fun j hj => ag j fun q => hj (hv j q)).trans (wipe_idem σ vs), ρ1, m', F2, α', W2, R2, Post.bindB p' fun b m3 F3 α3 H3 b' e3 W3 hb p3 => ?_⟩
        cases hb
        obtain ⟨d4, d5, d6⟩ := stay e3 d1 d2 d3
        cases b with
        | true =>
          rw [if_pos rfl] at p3 ⊢
          rw [Res.bind_calm] at p3
          refine ⟨ρ1, m3, F3, α3, W3, R2.mono W2.nf e3, Post.bindB p3 fun y m4 F4 α4 H4 yv e4 W4 ry p4 => ?_⟩
          obtain ⟨d7, d8, d9⟩ := stay e4 d4 d5 d6
          refine ⟨av, d7, ?_, _, by omega, rfl, hlt, acc ++ [y], av ++ [yv], m4, F4, α4, ?_, ?_, (W4.apart d8 d9).2, upd_same, d8, d9, ?_, ?_⟩
          · rw [← ra.length]
            exact Nat.lt_of_le_of_lt (show acc.length ≤ 100000 by omega) (by decide)
          · rw [List.length_append]
            show acc.length + 1 ≤ i + 1
            omega
          · have ee := e'.trans (e2.trans (e3.trans e4))
            exact ⟨ee.f, ee.al, fun a o h n => by rw [upd_ne (ne_of_none h hD)]; exact ee.k a o h n, ee.new, ee.fn⟩
          · exact (((((ra.mono W'.nf e2).mono W2.nf e3).mono W3.nf e4).append (.one ry))).sub (W4.apart d8 d9).1
          · rw [Res.bind_bind] at p4
            simpa only [Res.bind, List.append_assoc, List.cons_append, List.nil_append] using p4
        | false =>
          rw [if_neg Bool.false_ne_true] at p3 ⊢
          exact ⟨_, by omega, rfl, hlt, acc, av, m3, F3, α3, by omega, e'.trans (e2.trans e3), W3, d4, d5, d6, (ra.mono W'.nf e2).mono W2.nf e3, p3⟩
      · exact p'.elim
    · rw [if_neg hc] at p'; exact p'.elim
  · have hi' : i = s.items.length := by omega
    subst hi'
    rw [List.drop_length, lcG] at p'
    by_cases hc : chkOk m' s.chk
    · rw [if_pos hc] at p'
      obtain ⟨h1, h2⟩ := hJ F' α' m' H' e' W' hc
      refine .inl ⟨h2, ?_⟩
      have p2 : Post K (VR K) (mkL cc acc m') F1 α1 H1 Q (E σ) := by simpa only [Res.bind, List.append_nil] using p'
      unfold L2.Q.mkL at p2
      have np : ∀ a, a ∈ α' → a ≠ D := fun a ha q => hα' (by rw [← q]; exact ha)
      split at p2
      · refine p2 _ F' (α' ++ [D]) H' ⟨e'.f, ?_, e'.k, fun a ha n => ?_, e'.fn⟩ ⟨by rw [List.length_append, List.length_append, W'.len]; rfl, ?_, fun a ha hf => ?_, W'.fr, fun n c a hn ha => ?_⟩ (.cell ?_)
        · obtain ⟨l, rfl⟩ := e'.al
          exact ⟨l ++ [D], List.append_assoc _ _ _⟩
        · rcases List.mem_append.mp ha with q | q
          · exact e'.new a q n
          · rw [List.mem_singleton.mp q]; exact hD
        · rw [List.nodup_append]
          exact ⟨W'.nd, List.nodup_cons.mpr ⟨List.not_mem_nil, List.nodup_nil⟩, fun a ha b hb => by rw [List.mem_singleton.mp hb]; exact np a ha⟩
        · rcases List.mem_append.mp ha with q | q
          · exact W'.nf a q hf
          · rw [List.mem_singleton.mp q] at hf; exact hF' hf
        · have sb : Sub F' α' H' F' (α' ++ [D]) H' := ⟨fun _ h => h, fun n a h => by rw [List.getElem?_append_left (List.getElem?_eq_some_iff.mp h).1]; exact h, fun _ _ _ h => h⟩
          by_cases hl : n < m'.length
          · rw [List.getElem?_append_left hl] at hn
            rw [List.getElem?_append_left (by rw [W'.len]; exact hl)] at ha
            obtain ⟨o', ho, hc'⟩ := W'.at_ n c a hn ha
            exact ⟨o', ho, hc'.sub sb⟩
          · rw [List.getElem?_append_right (by omega)] at hn
            rw [List.getElem?_append_right (by rw [W'.len]; omega), W'.len] at ha
            cases hk : n - m'.length with
            | zero =>
              rw [hk] at hn ha
              cases hn; cases ha
              exact ⟨_, hD', ra.sub sb⟩
            | succ k => rw [hk] at hn; cases hn
        · rw [← W'.len, List.getElem?_append_right (Nat.le_refl _), Nat.sub_self]; rfl
      · refine p2 _ (fun a => F' a ∨ a = D) α' H' ⟨fun a h => .inl (e'.f a h), e'.al, e'.k, e'.new, fun a o hf h n => hf.elim (fun q => e'.fn a o q h n) fun q => by rw [q, hD] at h; cases h⟩ ⟨W'.len, W'.nd, fun a ha hf => hf.elim (W'.nf a ha) (np a ha), fun a hf => hf.elim (W'.fr a) fun q => ⟨HO.lst av, by subst q; exact hD'⟩, fun n c a hn ha => ?_⟩ (.lst (.inr rfl) hD' ?_)
        · obtain ⟨o', ho, hc'⟩ := W'.at_ n c a hn ha
          exact ⟨o', ho, hc'.sub ⟨fun _ h => .inl h, fun _ _ h => h, fun _ _ _ h => h⟩⟩
        · exact ra.sub ⟨fun _ h => .inl h, fun _ _ h => h, fun _ _ _ h => h⟩
    · rw [if_neg hc] at p'; exact p'.elim
end
section
variable {X : Cx} {E : St → XK} {elt tg iter : Expr} {ifs : List Expr} {scope : Scope} {own : List (Str × Nat)} {pos spos : Pos} {ff : FI} {t : Tg} {ft : FT} {fe : FE}
theorem pp_tnil : PTs X [] (tT X.K E fYes) := ⟨fun pins s σ H Q I ⟨ρ, m, F, α, W, R, p⟩ => pts_nil.run pins s σ H Q I (p.here W rfl)⟩
theorem pp_tone {c : Expr} (h : PT X c (tT X.K E ft)) : PTs X [c] (tT X.K E ft) := pts_one h
theorem pp_lc (cc : Bool) (hc : X.calm = true) (hN : X.N.Nodup) (hi : PI X tg iter (tI X.K E ff)) (ok : BlkOk X.N X.env.scope scope own) (hv : ∀ j ∈ t.slots, j ∈ own.map (·.2))
    (hg : ∀ (s : Shared) (H : Hp) (C : Addr) (cl : List (Str × Addr)) (fp : List Addr), PG (X.blk s H scope (compEnvC scope cl C X.env) fp) tg (t.rd X.K)) (ht : ∀ (s : Shared) (H : Hp) (C : Addr) (cl : List (Str × Addr)) (fp : List Addr), PTs (X.blk s H scope (compEnvC scope cl C X.env) fp) ifs (tT X.K (fun _ => E0) ft))
    (he : ∀ (s : Shared) (H : Hp) (C : Addr) (cl : List (Str × Addr)) (fp : List Addr), PE (X.blk s H scope (compEnvC scope cl C X.env) fp) elt (tP X.K (fun _ => E0) fe)) (hs : ∀ x, foldedSetIterable iter X.env x = pure x := by intro _; rfl) :
    PE X (.ListComp elt [⟨tg, iter, ifs, 0⟩] scope pos) (tP X.K E (fLc cc ff t ft fe (own.map (·.2)))) := pe_imp (pe_lc hc hN hi ok hg ht he hs) fun σ H Q w => lc_of hv w
theorem pp_setLc {i : Nat} {y : Str} {py : Pos} (cc : Bool) (hc : X.calm = true) (hN : X.N.Nodup) (hy : X.N[i]? = some y) (hyl : X.env.scope.names.lookup y = some .local)
    (hsw : swapsWith (.ListComp elt [⟨tg, iter, ifs, 0⟩] scope pos) (some (.Name y py)) spos.line X.env = pure true) (hi : PI X tg iter (tI X.K E ff)) (ok : BlkOk X.N X.env.scope scope own) (hv : ∀ j ∈ t.slots, j ∈ own.map (·.2))
    (hg : ∀ (s : Shared) (H : Hp) (C : Addr) (cl : List (Str × Addr)) (fp : List Addr), PG (X.blk s H scope (compEnvC scope cl C X.env) fp) tg (t.rd X.K)) (ht : ∀ (s : Shared) (H : Hp) (C : Addr) (cl : List (Str × Addr)) (fp : List Addr), PTs (X.blk s H scope (compEnvC scope cl C X.env) fp) ifs (tT X.K (fun _ => E0) ft))
    (he : ∀ (s : Shared) (H : Hp) (C : Addr) (cl : List (Str × Addr)) (fp : List Addr), PE (X.blk s H scope (compEnvC scope cl C X.env) fp) elt (tP X.K (fun _ => E0) fe)) (hs : ∀ x, foldedSetIterable iter X.env x = pure x := by intro _; rfl) :
    PS X (.Assign [.Name y py] (.ListComp elt [⟨tg, iter, ifs, 0⟩] scope pos) spos) (tS X.K E (fAsg (.name i) (fLc cc ff t ft fe (own.map (·.2))))) := by
  refine ps_imp (ps_setLc hc hN hy hyl hsw hi ok hg ht he hs) fun D σ H ⟨ρ, m, F, α, W, R, p⟩ => ?_
  have q : tP X.K E (fLc cc ff t ft fe (own.map (·.2))) σ H (fun x H1 => (Tg.name i).rd X.K x σ H1 D.nx) := tP_outs W R p fun d m1 F1 α1 H1 x e1 W1 R1 rx p1 => p1 _ _ _ _ Ex.refl W1 (R1.set rx i)
  exact lc_of hv q
end
/-! ### what is walked -/
def iSeq (fe : FE) : FI := fun ρ m => (fe ρ m).bind fun d m1 => match d with
  | .tup xs => .ok ⟨xs, []⟩ m1
  | .lst xs => .ok ⟨xs, []⟩ m1
  | .xls xs => .ok ⟨xs, []⟩ m1
  | .str z => .ok ⟨z.cps.toList.map fun c => .str ⟨#[c]⟩, []⟩ m1
  | .cell n => match m1[n]? with
    | some (.lst xs) => .ok ⟨xs, [(n, xs)]⟩ m1
    | _ => .stuck
  | _ => .stuck
def rngP (lo : Int) (n : Nat) : List P := (List.range n).map fun (i : Nat) => .int (lo + (i : Int))
def iR1 (fa : FA) : FI := fun ρ m => (fa ρ m).bind fun ds m1 => match ds with
  | [.int j] => if decide (-(2 ^ 62) ≤ j ∧ j < 2 ^ 62) = true then .ok ⟨rngP 0 j.toNat, []⟩ m1 else .stuck
  | _ => .stuck
def iR2 (fa : FA) : FI := fun ρ m => (fa ρ m).bind fun ds m1 => match ds with
  | [.int i, .int j] => if decide (-(2 ^ 62) ≤ i ∧ i < 2 ^ 62 ∧ -(2 ^ 62) ≤ j ∧ j < 2 ^ 62) = true then .ok ⟨rngP i (j - i).toNat, []⟩ m1 else .stuck
  | _ => .stuck
/-- enumerate of a list -/
def enumP (xs : List P) : List P := (List.range xs.length).zipWith (fun (i : Nat) x => .tup [.int (i : Int), x]) xs
section
variable {K : PySem.W.Frag} {F : Addr → Prop} {α : List Addr} {H : Hp} {m : M}
theorem itT {a : Addr} {xs : List P} {vs : List V} (f : F a) (e : H a = some (.tup vs)) (W : Wk K F α m H) (r : Rps K F α H xs vs) : ItP K F α H ⟨xs, []⟩ (Itt K a) := by
  intro F' α' m' H' e' W' _
  have e2 : H' a = some (.tup vs) := (e'.sub W.nf).k a _ f e
  have r2 := r.mono W.nf e'
  refine ⟨fun i d hd => ?_, ⟨vs, Evl.st_of e2, by rw [r2.length]; exact Nat.le_refl _⟩⟩
  obtain ⟨w, h1, h2⟩ := r2.get hd
  exact ⟨⟨vs, w, Evl.st_of e2, h1⟩, fun x H'' ⟨q1, q2⟩ => by
    subst q1
    have := q2 vs (Evl.st_of e2)
    rw [h1] at this; cases this
    exact ⟨F', Ex.refl, W', h2⟩⟩
theorem itL {a : Addr} {xs : List P} {vs : List V} (st : ∀ F' α' m' H', Ex F α H F' α' H' → Wk K F' α' m' H' → SqL K H' a vs) (W : Wk K F α m H) (r : Rps K F α H xs vs) : ItP K F α H ⟨xs, []⟩ (Itl K a) := by
  intro F' α' m' H' e' W' _
  have e2 := st F' α' m' H' e' W'
  have r2 := r.mono W.nf e'
  refine ⟨fun i d hd => ?_, ⟨vs, e2, by rw [r2.length]; exact Nat.le_refl _⟩⟩
  obtain ⟨w, h1, h2⟩ := r2.get hd
  exact ⟨⟨vs, w, e2, h1⟩, fun x H'' ⟨q1, q2⟩ => by
    subst q1
    have := q2 vs e2
    rw [h1] at this; cases this
    exact ⟨F', Ex.refl, W', h2⟩⟩
theorem itC {n : Nat} {a : Addr} {xs : List P} (ha : α[n]? = some a) : ItP K F α H ⟨xs, [(n, xs)]⟩ (Itl K a) := by
  intro F' α' m' H' e' W' hc
  obtain ⟨o, ho, hr⟩ := W'.at_ n _ a hc.1 (al_get ha e')
  cases o <;> first | exact hr.elim | skip
  rename_i vs
  have r2 : Rps K F' α' H' xs vs := hr
  refine ⟨fun i d hd => ?_, ⟨vs, SqL.of ho, by rw [r2.length]; exact Nat.le_refl _⟩⟩
  obtain ⟨w, h1, h2⟩ := r2.get hd
  exact ⟨⟨vs, w, SqL.of ho, h1⟩, fun x H'' ⟨q1, q2⟩ => by
    subst q1
    have := q2 vs (SqL.of ho)
    rw [h1] at this; cases this
    exact ⟨F', Ex.refl, W', h2⟩⟩
theorem itS (z : Str) : ItP K F α H ⟨z.cps.toList.map fun c => .str ⟨#[c]⟩, []⟩ (Its z) := by
  intro F' α' m' H' e' W' _
  refine ⟨fun i d hd => ?_, by simp [Its]⟩
  rw [List.getElem?_map] at hd
  obtain ⟨c, hc, rfl⟩ := Option.map_eq_some_iff.mp hd
  rw [Array.getElem?_toList] at hc
  refine ⟨(Array.getElem?_eq_some_iff.mp hc).1, fun x H'' ⟨q1, c', hc', q2⟩ => ?_⟩
  subst q1 q2
  rw [hc] at hc'; cases hc'
  exact ⟨F', Ex.refl, W', .str _⟩
theorem itR (lo : Int) (n : Nat) : ItP K F α H ⟨rngP lo n, []⟩ (Itr lo n) := by
  intro F' α' m' H' e' W' _
  have hl : (rngP lo n).length = n := by simp [rngP]
  refine ⟨fun i d hd => ?_, by show n ≤ (rngP lo n).length; rw [hl]; exact Nat.le_refl _⟩
  have hi : i < n := by rw [← hl]; exact (List.getElem?_eq_some_iff.mp hd).1
  have hd' : d = .int (lo + (i : Int)) := by
    unfold rngP at hd
    rw [List.getElem?_map, List.getElem?_range hi] at hd
    simpa using hd.symm
  refine ⟨hi, fun x H'' ⟨q1, q2⟩ => ?_⟩
  subst q1 q2 hd'
  exact ⟨F', Ex.refl, W', .int _⟩
end
section
variable {X : Cx} {E : St → XK} {tg e a b : Expr} {p pos : Pos} {fe : FE} {fr : FA}
theorem pp_iSeq (h : PE X e (tP X.K E fe)) : PI X tg e (tI X.K E (iSeq fe)) := by
  refine pi_imp (pi_alt (pi_tup (tg := tg) h) (pi_alt (pi_list (tg := tg) h) (pi_str (tg := tg) h))) fun σ H R ⟨ρ, m, F, α, W, RR, p⟩ => ?_
  cases hf : fe ρ m with
  | stuck => simp only [iSeq, hf, Res.bind] at p; exact p.elim
  | exc c fs m1 =>
    simp only [iSeq, hf, Res.bind] at p
    exact .inl ⟨ρ, m, F, α, W, RR, by rw [hf]; exact p⟩
  | ok d m1 =>
    simp only [iSeq, hf, Res.bind] at p
    have go : ∀ {G : VK}, (∀ F1 α1 H1 x, Ex F α H F1 α1 H1 → Wk X.K F1 α1 m1 H1 → Rp X.K F1 α1 H1 d x → G x H1) → tP X.K E fe σ H G := fun hk => ⟨ρ, m, F, α, W, RR, by rw [hf]; exact fun v F1 α1 H1 e1 W1 r1 => hk F1 α1 H1 v e1 W1 r1⟩
    split at p
    · refine .inl (go fun F1 α1 H1 x e1 W1 r1 => ?_)
      obtain ⟨a, vs, rfl, f, e2, r2⟩ := tv_ok r1
      exact ⟨a, rfl, ⟨vs, Evl.st_of e2⟩, p _ F1 α1 H1 e1 W1 (itT f e2 W1 r2)⟩
    · refine .inr (.inl (go fun F1 α1 H1 x e1 W1 r1 => ?_))
      cases r1
      rename_i a vs f e2 r2
      exact ⟨a, rfl, ⟨vs, SqL.of e2⟩, p _ F1 α1 H1 e1 W1 (itL (fun F' α' m' H' e' W' => SqL.of ((e'.sub W1.nf).k _ _ f e2)) W1 r2)⟩
    · refine .inr (.inl (go fun F1 α1 H1 x e1 W1 r1 => ?_))
      cases r1
      rename_i a vs f r2
      refine ⟨a, rfl, ⟨vs, f.elim (fun q => .inl q.2) fun q => q _⟩, p _ F1 α1 H1 e1 W1 (itL (fun F' α' m' H' e' W' => f.elim (fun q => .inl ?_) fun q => q _) W1 r2)⟩
      exact q.2.imp (fun r => (e'.sub W1.nf).k _ _ q.1 r) fun ⟨o, r⟩ => ⟨o, (e'.sub W1.nf).k _ _ q.1 r⟩
    · refine .inr (.inr (go fun F1 α1 H1 x e1 W1 r1 => ?_))
      cases r1
      exact ⟨_, rfl, p _ F1 α1 H1 e1 W1 (itS _)⟩
    · rename_i n
      split at p
      · rename_i xs hn
        refine .inr (.inl (go fun F1 α1 H1 x e1 W1 r1 => ?_))
        cases r1
        rename_i a ha
        obtain ⟨o, ho, hr⟩ := W1.at_ n _ a hn ha
        cases o <;> first | exact hr.elim | skip
        exact ⟨a, rfl, ⟨_, SqL.of ho⟩, p _ F1 α1 H1 e1 W1 (itC ha)⟩
      · exact p.elim
    · exact p.elim
theorem pp_iR1 (hg : Gl X "range") (hm : X.mg "range" = none) (ha : PA X [a] (tA X.K E fr)) (hs : starEach [a] X.env = [(false, eval a X.env)] := by rfl) : PI X tg (.Call (.Name "range" p) [a] [] pos) (tI X.K E (iR1 fr)) :=
  pi_imp (pi_range1 hg hm ha hs) fun σ H R ⟨ρ, m, F, α, W, RR, p⟩ => ⟨ρ, m, F, α, W, RR, Post.bind p fun ds m1 F1 α1 H1 vs e1 W1 r1 p1 => by
    split at p1
    · obtain ⟨hc, p1⟩ := iteG p1
      obtain ⟨v, rfl, r2⟩ := r1.only
      cases r2
      have h := of_decide_eq_true hc
      exact ⟨_, rfl, h.1, h.2, p1 _ F1 α1 H1 Ex.refl W1 (itR _ _)⟩
    · exact p1.elim⟩
theorem pp_iR2 (hg : Gl X "range") (hm : X.mg "range" = none) (ha : PA X [a, b] (tA X.K E fr)) (hs : starEach [a, b] X.env = [(false, eval a X.env), (false, eval b X.env)] := by rfl) (hs2 : starEach [b] X.env = [(false, eval b X.env)] := by rfl) : PI X tg (.Call (.Name "range" p) [a, b] [] pos) (tI X.K E (iR2 fr)) :=
  pi_imp (pi_range2 hg hm ha hs hs2) fun σ H R ⟨ρ, m, F, α, W, RR, p⟩ => ⟨ρ, m, F, α, W, RR, Post.bind p fun ds m1 F1 α1 H1 vs e1 W1 r1 p1 => by
    split at p1
    · obtain ⟨hc, p1⟩ := iteG p1
      obtain ⟨v, w, rfl, r2, r3⟩ := r1.two
      cases r2; cases r3
      have h := of_decide_eq_true hc
      exact ⟨_, _, rfl, h, p1 _ F1 α1 H1 Ex.refl W1 (itR _ _)⟩
    · exact p1.elim⟩
end
end
/-! N6 -/
section
open PySem PySem.Spec PyProof.Rows
mutual
/-- all cells named stand under n -/
def P.under (n : Nat) : P → Bool
  | .tup xs => P.unders n xs
  | .lst xs => P.unders n xs
  | .xls xs => P.unders n xs
  | .dK kvs => P.underK n kvs
  | .dT kvs => P.underT n kvs
  | .obj _ fs => P.underF n fs
  | .cell k => decide (k < n)
  | _ => true
def P.unders (n : Nat) : List P → Bool
  | [] => true
  | x :: xs => P.under n x && P.unders n xs
def P.underK (n : Nat) : List (Key × P) → Bool
  | [] => true
  | (_, x) :: xs => P.under n x && P.underK n xs
def P.underT (n : Nat) : List (List Key × P) → Bool
  | [] => true
  | (_, x) :: xs => P.under n x && P.underT n xs
def P.underF (n : Nat) : List (Str × P) → Bool
  | [] => true
  | (_, x) :: xs => P.under n x && P.underF n xs
end
theorem underK_eq (n : Nat) : ∀ kvs, P.underK n kvs = P.unders n (kvs.map (·.2))
  | [] => by simp [P.underK, P.unders]
  | (_, x) :: xs => by simp [P.underK, P.unders, underK_eq n xs]
theorem underT_eq (n : Nat) : ∀ kvs, P.underT n kvs = P.unders n (kvs.map (·.2))
  | [] => by simp [P.underT, P.unders]
  | (_, x) :: xs => by simp [P.underT, P.unders, underT_eq n xs]
theorem underF_eq (n : Nat) : ∀ kvs, P.underF n kvs = P.unders n (kvs.map (·.2))
  | [] => by simp [P.underF, P.unders]
  | (_, x) :: xs => by simp [P.underF, P.unders, underF_eq n xs]
def fzs (f : P → Option P) : List P → Option (List P)
  | [] => some []
  | x :: xs => match f x, fzs f xs with
    | some y, some ys => some (y :: ys)
    | _, _ => none
/-- the cells from n on become trees -/
def fz (n : Nat) (m : M) : Nat → P → Option P
  | 0, d => if d.under n = true then some d else none
  | k + 1, d => if d.under n = true then some d else match d with
    | .tup xs => (fzs (fz n m k) xs).map .tup
    | .lst xs => (fzs (fz n m k) xs).map .lst
    | .cell j => match m[j]? with
      | some (.lst xs) => (fzs (fz n m k) xs).map .lst
      | some (.dK kvs) => (fzs (fz n m k) (kvs.map (·.2))).map fun ys => .dK ((kvs.map (·.1)).zip ys)
      | some (.dT kvs) => (fzs (fz n m k) (kvs.map (·.2))).map fun ys => .dT ((kvs.map (·.1)).zip ys)
      | some (.ins C fs) => (fzs (fz n m k) (fs.map (·.2))).map fun ys => .obj C ((fs.map (·.1)).zip ys)
      | none => none
    | _ => none
def Cell.under (n : Nat) : Cell → Bool
  | .lst xs => P.unders n xs
  | .dK kvs => P.unders n (kvs.map (·.2))
  | .dT kvs => P.unders n (kvs.map (·.2))
  | .ins _ fs => P.unders n (fs.map (·.2))
/-- the elder cells are as they were, or name elder cells alone -/
def OkCut (m0 m : M) : Prop := m0.length ≤ m.length ∧ ∀ n c, n < m0.length → m[n]? = some c → m0[n]? = some c ∨ c.under m0.length = true
noncomputable instance (m0 m : M) : Decidable (OkCut m0 m) := Classical.propDecidable _
theorem OkCut.refl {m : M} : OkCut m m := ⟨Nat.le_refl _, fun _ _ _ h => .inl h⟩
theorem OkCut.add {m0 m l : M} (h : OkCut m0 m) : OkCut m0 (m ++ l) := ⟨by rw [List.length_append]; exact Nat.le_trans h.1 (Nat.le_add_right _ _), fun n c hn hc => h.2 n c hn (by rwa [List.getElem?_append_left (Nat.lt_of_lt_of_le hn h.1)] at hc)⟩
theorem OkCut.set {m0 m : M} {k : Nat} {c : Cell} (h : OkCut m0 m) (hc : c.under m0.length = true) : OkCut m0 (m.set k c) := ⟨by rw [List.length_set]; exact h.1, fun n c' hn hc' => by
  by_cases hk : k = n
  · subst hk
    rw [List.getElem?_set_self (Nat.lt_of_lt_of_le hn h.1)] at hc'
    cases hc'
    exact .inr hc
  · rw [List.getElem?_set_ne hk] at hc'
    exact h.2 n c' hn hc'⟩
theorem OkCut.set_new {m0 m : M} {k : Nat} {c : Cell} (h : OkCut m0 m) (hk : m0.length ≤ k) : OkCut m0 (m.set k c) := ⟨by rw [List.length_set]; exact h.1, fun n c' hn hc' => by
  rw [List.getElem?_set_ne (by omega)] at hc'
  exact h.2 n c' hn hc'⟩
/-- a value handed out: the new cells are made trees, the store is as long as before -/
noncomputable def cutV' (m0 : M) (d : P) (m : M) : Res P := if OkCut m0 m then match fz m0.length m 6 d with
  | some d' => .ok d' (m.take m0.length)
  | none => .stuck
  else .stuck
noncomputable def cutX (m0 : M) (c : Str) (fs : List (Str × P)) (m : M) : Res P := if OkCut m0 m then match fzs (fz m0.length m 6) (fs.map (·.2)) with
  | some ys => .exc c ((fs.map (·.1)).zip ys) (m.take m0.length)
  | none => .stuck
  else .stuck
noncomputable def finish (cut : Bool) (m0 : M) : Out → Res P
  | .rt d m => if cut = true then cutV' m0 d m else .ok d m
  | .nx _ m => if cut = true then cutV' m0 .non m else .ok .non m
  | .exc c fs _ m => if cut = true then cutX m0 c fs m else .exc c fs m
  | _ => .stuck
def startP (n : Nat) (ds : List P) : Env := ds.map some ++ List.replicate (n - ds.length) none
noncomputable def fnF (cut : Bool) (n : Nat) (body : FS) : FN := fun ds m => finish cut m (body (startP n ds) m)
/-- a def's promise -/
def gd (k : Nat) (f : FN) : FN := fun ds m => if ds.length = k then f ds m else .stuck
def spF (K : PySem.W.Frag) (k : Nat) (f : FN) : Sp := fun vs H Q E => ∃ ds m F α, Wk K F α m H ∧ Rps K F α H ds vs ∧ Post K (VR K) (gd k f ds m) F α H Q E
theorem spF_len {K k f} : ∀ vs H Q E, spF K k f vs H Q E → vs.length = k := fun vs H Q E ⟨ds, m, F, α, W, R, p⟩ => by
  unfold gd at p
  split at p
  · rename_i h; rw [← R.length]; exact h
  · exact p.elim
section
variable {K : PySem.W.Frag} {F : Addr → Prop} {α : List Addr} {H : Hp} {m : M}
mutual
theorem under_rp {n : Nat} {F' : Addr → Prop} (hF : ∀ a, F a → F' a) : ∀ {d : P} {v : V}, Rp K F α H d v → d.under n = true → Rp K F' (α.take n) H d v
  | _, _, .non, _ => .non
  | _, _, .bl b, _ => .bl b
  | _, _, .int i, _ => .int i
  | _, _, .str x, _ => .str x
  | _, _, .ty n, _ => .ty n
  | _, _, .cls c, _ => .cls c
  | _, _, .tup h1 h2 h3, h => .tup (hF _ h1) h2 (under_rps hF h3 (by simpa only [P.under] using h))
  | _, _, .lst h1 h2 h3, h => .lst (hF _ h1) h2 (under_rps hF h3 (by simpa only [P.under] using h))
  | _, _, .xls h1 h3, h => .xls (h1.imp (fun q => ⟨hF _ q.1, q.2⟩) id) (under_rps hF h3 (by simpa only [P.under] using h))
  | _, _, .dK h1 h2 h3 h4, h => .dK (hF _ h1) h2 h3 (under_rps hF h4 (by simpa only [P.under, underK_eq] using h))
  | _, _, .dT h1 h2 h3 h4, h => .dT (hF _ h1) h2 h3 (under_rps hF h4 (by simpa only [P.under, underT_eq] using h))
  | _, _, .obj h1 h2 h3 h4, h => .obj (hF _ h1) h2 h3 (under_rps hF h4 (by simpa only [P.under, underF_eq] using h))
  | _, _, .cell e, h => .cell (by
      simp only [P.under, decide_eq_true_eq] at h
      rw [List.getElem?_take_of_lt h]; exact e)
theorem under_rps {n : Nat} {F' : Addr → Prop} (hF : ∀ a, F a → F' a) : ∀ {d : List P} {v : List V}, Rps K F α H d v → P.unders n d = true → Rps K F' (α.take n) H d v
  | _, _, .nil, _ => .nil
  | _, _, .cons r t, h => by
    simp only [P.unders, Bool.and_eq_true] at h
    exact .cons (under_rp hF r h.1) (under_rps hF t h.2)
end
mutual
theorem rp_under {n : Nat} (hn : α.length ≤ n) : ∀ {d : P} {v : V}, Rp K F α H d v → d.under n = true
  | _, _, .non => by simp only [P.under]
  | _, _, .bl b => by simp only [P.under]
  | _, _, .int i => by simp only [P.under]
  | _, _, .str x => by simp only [P.under]
  | _, _, .ty n => by simp only [P.under]
  | _, _, .cls c => by simp only [P.under]
  | _, _, .tup h1 h2 h3 => by simp only [P.under]; exact rps_under hn h3
  | _, _, .lst h1 h2 h3 => by simp only [P.under]; exact rps_under hn h3
  | _, _, .xls h1 h3 => by simp only [P.under]; exact rps_under hn h3
  | _, _, .dK h1 h2 h3 h4 => by simp only [P.under, underK_eq]; exact rps_under hn h4
  | _, _, .dT h1 h2 h3 h4 => by simp only [P.under, underT_eq]; exact rps_under hn h4
  | _, _, .obj h1 h2 h3 h4 => by simp only [P.under, underF_eq]; exact rps_under hn h4
  | _, _, .cell e => by
    simp only [P.under, decide_eq_true_eq]
    exact Nat.lt_of_lt_of_le (List.getElem?_eq_some_iff.mp e).1 hn
theorem rps_under {n : Nat} (hn : α.length ≤ n) : ∀ {d : List P} {v : List V}, Rps K F α H d v → P.unders n d = true
  | _, _, .nil => by simp only [P.unders]
  | _, _, .cons r t => by simp only [P.unders, rp_under hn r, rps_under hn t, Bool.and_self]
end
/-- the trees behind a cut -/
def FrC (F : Addr → Prop) (α : List Addr) (n : Nat) : Addr → Prop := fun a => F a ∨ ∃ k, n ≤ k ∧ α[k]? = some a
theorem fzs_rps {n : Nat} {f : P → Option P} {F' : Addr → Prop} {α' : List Addr} (hf : ∀ d v d', Rp K F α H d v → f d = some d' → Rp K F' α' H d' v) : ∀ {d : List P} {v : List V} {d' : List P}, Rps K F α H d v → fzs f d = some d' → Rps K F' α' H d' v
  | _, _, _, .nil, h => by simp only [fzs, Option.some.injEq] at h; subst h; exact .nil
  | _, _, _, .cons r t, h => by
    simp only [fzs] at h
    split at h
    · rename_i y ys h1 h2
      cases h
      exact .cons (hf _ _ _ r h1) (fzs_rps (n := n) hf t h2)
    · cases h
theorem fzs_len {f : P → Option P} : ∀ {d d' : List P}, fzs f d = some d' → d'.length = d.length
  | [], d', h => by simp only [fzs, Option.some.injEq] at h; subst h; rfl
  | x :: xs, d', h => by
    simp only [fzs] at h
    split at h
    · rename_i y ys h1 h2
      cases h
      rw [List.length_cons, List.length_cons, fzs_len h2]
    · cases h
theorem zip_fst {κ β : Type} : ∀ {a : List κ} {b : List β}, b.length = a.length → (a.zip b).map (·.1) = a
  | [], [], _ => rfl
  | x :: a, y :: b, h => by rw [List.zip_cons_cons, List.map_cons, zip_fst (by simpa using h)]
theorem zip_snd {κ β : Type} : ∀ {a : List κ} {b : List β}, b.length = a.length → (a.zip b).map (·.2) = b
  | [], [], _ => rfl
  | x :: a, y :: b, h => by rw [List.zip_cons_cons, List.map_cons, zip_snd (by simpa using h)]
theorem fz_rp (W : Wk K F α m H) {n : Nat} : ∀ (k : Nat) (d : P) (v : V) (d' : P), Rp K F α H d v → fz n m k d = some d' → Rp K (FrC F α n) (α.take n) H d' v := by
  intro k
  induction k with
  | zero =>
    intro d v d' r h
    simp only [fz] at h
    split at h
    · rename_i hb; cases h; exact under_rp (fun _ q => .inl q) r hb
    · cases h
  | succ k ih =>
    intro d v d' r h
    simp only [fz] at h
    split at h
    · rename_i hb; cases h; exact under_rp (fun _ q => .inl q) r hb
    · rename_i hnb
      split at h
      · obtain ⟨ys, h1, rfl⟩ := Option.map_eq_some_iff.mp h
        obtain ⟨a, vs, rfl, f, e1, r1⟩ := tv_ok r
        exact .tup (.inl f) e1 (fzs_rps (n := n) ih r1 h1)
      · obtain ⟨ys, h1, rfl⟩ := Option.map_eq_some_iff.mp h
        cases r
        rename_i f e1 r1
        exact .lst (.inl f) e1 (fzs_rps (n := n) ih r1 h1)
      · rename_i j
        cases r
        rename_i a ha
        have hj : n ≤ j := by simp only [P.under, decide_eq_true_eq] at hnb; omega
        have fa : FrC F α n a := .inr ⟨j, hj, ha⟩
        split at h
        · rename_i xs hn
          obtain ⟨ys, h1, rfl⟩ := Option.map_eq_some_iff.mp h
          obtain ⟨o, ho, hc⟩ := W.at_ j _ a hn ha
          cases o <;> first | exact hc.elim | skip
          exact .lst fa ho (fzs_rps (n := n) ih hc h1)
        · rename_i xs hn
          obtain ⟨ys, h1, rfl⟩ := Option.map_eq_some_iff.mp h
          obtain ⟨o, ho, hc⟩ := W.at_ j _ a hn ha
          cases o <;> first | exact hc.elim | skip
          have hl := fzs_len h1
          rw [List.length_map] at hl
          exact .dK fa ho (by rw [zip_fst (by rw [List.length_map]; exact hl)]; exact hc.1) (by rw [zip_snd (by rw [List.length_map]; exact hl)]; exact fzs_rps (n := n) ih hc.2 h1)
        · rename_i xs hn
          obtain ⟨ys, h1, rfl⟩ := Option.map_eq_some_iff.mp h
          obtain ⟨o, ho, hc⟩ := W.at_ j _ a hn ha
          cases o <;> first | exact hc.elim | skip
          have hl := fzs_len h1
          rw [List.length_map] at hl
          exact .dT fa ho (by rw [zip_fst (by rw [List.length_map]; exact hl)]; exact hc.1) (by rw [zip_snd (by rw [List.length_map]; exact hl)]; exact fzs_rps (n := n) ih hc.2 h1)
        · rename_i C fs hn
          obtain ⟨ys, h1, rfl⟩ := Option.map_eq_some_iff.mp h
          obtain ⟨o, ho, hc⟩ := W.at_ j _ a hn ha
          cases o <;> first | exact hc.elim | skip
          obtain ⟨rfl, hc1, hc2⟩ := hc
          have hl := fzs_len h1
          rw [List.length_map] at hl
          exact .obj fa ho (by rw [zip_fst (by rw [List.length_map]; exact hl)]; exact hc1) (by rw [zip_snd (by rw [List.length_map]; exact hl)]; exact fzs_rps (n := n) ih hc2 h1)
        · cases h
      · cases h
/-- the world behind a cut -/
theorem cut_world {F' : Addr → Prop} {α' : List Addr} {H' : Hp} {m' : M} (W0 : Wk K F α m H) (e : Ex F α H F' α' H') (W : Wk K F' α' m' H') (h : OkCut m m') :
    Ex F α H (FrC F' α' m.length) (α'.take m.length) H' ∧ Wk K (FrC F' α' m.length) (α'.take m.length) (m'.take m.length) H' := by
  have hα : α'.take m.length = α := by
    obtain ⟨l, rfl⟩ := e.al
    rw [← W0.len, List.take_left]
  have late : ∀ a k, m.length ≤ k → α'[k]? = some a → a ∉ α := fun a k hk ha hm => by
    obtain ⟨j, hj⟩ := List.getElem?_of_mem hm
    have hj' := al_get hj e
    obtain ⟨h1, e1⟩ := List.getElem?_eq_some_iff.mp ha
    obtain ⟨h2, e2⟩ := List.getElem?_eq_some_iff.mp hj'
    have : k = j := (List.getElem_inj W.nd).mp (e1.trans e2.symm)
    have hl := (List.getElem?_eq_some_iff.mp hj).1
    rw [W0.len] at hl
    omega
  refine ⟨⟨fun a q => .inl (e.f a q), ⟨[], by rw [hα, List.append_nil]⟩, e.k, fun a ha n => absurd (hα ▸ ha) n, fun a o hf ho n => ?_⟩, ⟨?_, ?_, fun a ha hf => ?_, fun a hf => ?_, fun n c a hn ha => ?_⟩⟩
  · rcases hf with q | ⟨k, hk, ha⟩
    · exact e.fn a o q ho n
    · have := e.new a (List.mem_of_getElem? ha) n
      rw [ho] at this; cases this
  · rw [List.length_take, List.length_take, W.len]
  · exact W.nd.sublist (List.take_sublist _ _)
  · rcases hf with q | ⟨k, hk, hk2⟩
    · exact W.nf a (List.mem_of_mem_take ha) q
    · exact late a k hk hk2 (hα ▸ ha)
  · rcases hf with q | ⟨k, hk, ha⟩
    · exact W.fr a q
    · obtain ⟨_, _, o, _, _, ho, _⟩ := W.has (List.mem_of_getElem? ha)
      exact ⟨o, ho⟩
  · have hl : n < m.length := by
      have := (List.getElem?_eq_some_iff.mp hn).1
      rw [List.length_take] at this
      omega
    rw [List.getElem?_take_of_lt hl] at hn ha
    obtain ⟨o, ho, hc⟩ := W.at_ n c a hn ha
    refine ⟨o, ho, ?_⟩
    have sb : Sub F α H (FrC F' α' m.length) (α'.take m.length) H' := ⟨fun a q => .inl (e.f a q), fun k b hb => by rw [hα]; exact hb, (e.sub W0.nf).k⟩
    rcases h.2 n c hl hn with q | q
    · -- the cell is an elder one: what it names stands under
      have key : c.under m.length = true → CellR K (FrC F' α' m.length) (α'.take m.length) H' c o := fun hb => by
        cases c <;> cases o <;> first | exact hc.elim | skip
        · exact under_rps (fun _ q => .inl q) hc hb
        · exact ⟨hc.1, under_rps (fun _ q => .inl q) hc.2 hb⟩
        · exact ⟨hc.1, under_rps (fun _ q => .inl q) hc.2 hb⟩
        · exact ⟨hc.1, hc.2.1, under_rps (fun _ q => .inl q) hc.2.2 hb⟩
      refine key ?_
      have ha0 : α[n]? = some a := by
        have := ha
        obtain ⟨l, rfl⟩ := e.al
        rwa [List.getElem?_append_left (by rw [W0.len]; exact hl)] at this
      obtain ⟨o0, ho0, hc0⟩ := W0.at_ n c a q ha0
      have bl : ∀ {d : P} {v : V}, Rp K F α H d v → d.under m.length = true := fun r => rp_under (by rw [← W0.len]; exact Nat.le_refl _) r
      have bls : ∀ {d : List P} {v : List V}, Rps K F α H d v → P.unders m.length d = true := fun r => rps_under (by rw [← W0.len]; exact Nat.le_refl _) r
      cases c <;> cases o0 <;> first | exact hc0.elim | skip
      · exact bls hc0
      · exact bls hc0.2
      · exact bls hc0.2
      · exact bls hc0.2.2
    · cases c <;> cases o <;> first | exact hc.elim | skip
      · exact under_rps (fun _ q => .inl q) hc q
      · exact ⟨hc.1, under_rps (fun _ q => .inl q) hc.2 q⟩
      · exact ⟨hc.1, under_rps (fun _ q => .inl q) hc.2 q⟩
      · exact ⟨hc.1, hc.2.1, under_rps (fun _ q => .inl q) hc.2.2 q⟩
end
end
/-! N7 -/
section
open PySem PySem.Spec PyProof.Rows
section
variable {K : PySem.W.Frag} {F : Addr → Prop} {α : List Addr} {H : Hp} {m : M} {Q : VK} {E : XK}
theorem EnvR.start {N : List Str} {ds : List P} {vs : List V} (r : Rps K F α H ds vs) : EnvR K F α H (startP N.length ds) (L2.start N vs) := by
  have hl := r.length
  refine ⟨?_, fun i d hd => ?_⟩
  · unfold startP L2.start
    rw [List.length_append, List.length_append, List.length_map, List.length_map, List.length_replicate, List.length_replicate, hl]
  · unfold startP at hd
    unfold L2.start
    by_cases hi : i < ds.length
    · rw [List.getElem?_append_left (by rw [List.length_map]; exact hi), List.getElem?_map] at hd
      obtain ⟨d', h1, h2⟩ := Option.map_eq_some_iff.mp hd
      cases h2
      obtain ⟨v, h3, h4⟩ := r.get h1
      exact ⟨v, by rw [List.getElem?_append_left (by rw [List.length_map, ← hl]; exact hi), List.getElem?_map, h3]; rfl, h4⟩
    · rw [List.getElem?_append_right (by rw [List.length_map]; omega), List.getElem?_replicate] at hd
      split at hd <;> cases hd
theorem finish_of {cut : Bool} {o : Out} (W : Wk K F α m H) (p : Post K (VR K) (finish cut m o) F α H Q E) : PostS K o F α H { nx := fun _ H' => Q .non H', rt := Q } (fun _ => E) := by
  have ret : ∀ d m1, Post K (VR K) (if cut = true then cutV' m d m1 else .ok d m1) F α H Q E → ∀ v F' α' H', Ex F α H F' α' H' → Wk K F' α' m1 H' → Rp K F' α' H' d v → Q v H' := fun d m1 p v F' α' H' e W' r => by
    split at p
    · unfold cutV' at p
      obtain ⟨hc, p⟩ := iteG p
      split at p
      · rename_i d' hf
        obtain ⟨e2, W2⟩ := cut_world W e W' hc
        exact p v _ _ _ e2 W2 (fz_rp W' _ _ _ _ r hf)
      · exact p.elim
    · exact p v F' α' H' e W' r
  cases o with
  | nx ρ m1 => exact fun σ F' α' H' e W' R => ret .non m1 p .non F' α' H' e W' .non
  | rt d m1 => exact ret d m1 p
  | bk => exact p.elim
  | ct => exact p.elim
  | stuck => exact p.elim
  | exc c fs ρ m1 =>
    intro σ F' α' H' dd e W' R x
    simp only [finish] at p
    split at p
    · unfold cutX at p
      obtain ⟨hc, p⟩ := iteG p
      split at p
      · rename_i ys hf
        obtain ⟨e2, W2⟩ := cut_world W e W' hc
        refine p _ _ _ dd e2 W2 ?_
        have hl := fzs_len hf
        rw [List.length_map] at hl
        cases dd with
        | none =>
          have hx : fs = [] := x
          subst hx
          show List.zip _ _ = []
          rfl
        | some d =>
          obtain ⟨h1, ws, h2, h3, h4⟩ := x
          exact ⟨.inl h1, ws, h2, by rw [zip_fst (by rw [List.length_map]; exact hl)]; exact h3, by rw [zip_snd (by rw [List.length_map]; exact hl)]; exact fzs_rps (n := m.length) (fun d v d' => fz_rp W' _ d v d') h4 hf⟩
      · exact p.elim
    · exact p F' α' H' dd e W' x
/-- a body that runs as f says keeps the promise -/
theorem body_of {cut : Bool} {N : List Str} {k : Nat} {fb : FS} {vs : List V} (h : spF K k (fnF cut N.length fb) vs H Q E) : tS K (fun _ => E) fb { nx := fun _ H' => Q .non H', rt := Q } (L2.start N vs) H := by
  obtain ⟨ds, m, F, α, W, R, p⟩ := h
  unfold gd at p
  obtain ⟨hl, p⟩ := iteG p
  exact ⟨startP N.length ds, m, F, α, W, .start R, finish_of W p⟩
/-- .. of a def that raises nothing -/
noncomputable def fnC (cut : Bool) (n : Nat) (body : FS) : FN := fun ds m => (fnF cut n body ds m).calm
theorem body_ofC {cut : Bool} {N : List Str} {k : Nat} {fb : FS} {vs : List V} (h : spF K k (fnC cut N.length fb) vs H Q E) : tS K (fun _ => E0) fb { nx := fun _ H' => Q .non H', rt := Q } (L2.start N vs) H := by
  obtain ⟨ds, m, F, α, W, R, p⟩ := h
  unfold gd at p
  obtain ⟨hl, p⟩ := iteG p
  refine body_of (k := k) (cut := cut) ⟨ds, m, F, α, W, R, ?_⟩
  unfold gd
  rw [if_pos hl]
  unfold fnC at p
  cases hr : fnF cut N.length fb ds m with
  | ok d m1 => rw [hr] at p; exact p
  | exc c fs m1 => rw [hr] at p; exact p.elim
  | stuck => rw [hr] at p; exact p.elim
end
section
variable {P : Program} {w : World} {K : PySem.W.Frag} {mg : Str → Option Value} {base : Heap} {x qual : Str} {params : Arguments} {body : List Stmt} {scope : Scope} {dvs : List V} {kws : List (Str × V)} {at_ : Str × Option Str} {fd : FuncData} {N ps : List Str} {k n : Nat} {fb : FS} {cut : Bool} {f : FN}
theorem conF (F : FunD K x qual params body scope dvs kws (He.fAd K at_) fd) (S : FnScope N ps scope) (hb : Binds K fd ps []) (hf : f = fnF cut N.length fb) (hn : n = ps.length)
    (hbody : ∀ (cdv : Value) (A : Around) (outer : List PySem.Env) (s : Shared) (H : Hp) (E : XK), Room k (A.deeper (envOfC qual scope s.heap.objs.size (He.fAd K at_) cdv)) → PSs (cxOf (L2.CX P w) P w K mg base N qual scope (He.fAd K at_) cdv A outer s H E) body (tS K (fun _ => E) fb)) :
    Con P w K mg base (L2.CX P w) (k + 1) at_ ps (spF K n f) := by
  subst hf hn
  exact ⟨⟨fd, F.ok S spF_len fun cdv A outer s H vs Q E hr h => ⟨_, hbody cdv A outer s H E hr, body_of h⟩, hb⟩, F.kp⟩
theorem conC (F : FunD K x qual params body scope dvs kws (He.fAd K at_) fd) (S : FnScope N ps scope) (hb : Binds K fd ps []) (hf : f = fnC cut N.length fb) (hn : n = ps.length)
    (hbody : ∀ (cdv : Value) (A : Around) (outer : List PySem.Env) (s : Shared) (H : Hp) (E : XK), Room k (A.deeper (envOfC qual scope s.heap.objs.size (He.fAd K at_) cdv)) → PSs (cxOf CX0 P w K mg base N qual scope (He.fAd K at_) cdv A outer s H E).nox body (tS K (fun _ => E0) fb)) :
    Con P w K mg base CX0 (k + 1) at_ ps (spF K n f) := by
  subst hf hn
  exact ⟨⟨fd, F.ok S spF_len fun cdv A outer s H vs Q E hr h => ⟨_, PSs.nox (hbody cdv A outer s H E hr), body_ofC h⟩, hb⟩, F.kp⟩
/-- before the first turn of a recursion -/
theorem con0 (F : FunD K x qual params body scope dvs kws (He.fAd K at_) fd) {CX : CXT} (hb : Binds K fd ps []) (hf : ∀ ds m, f ds m = .stuck) (hn : n = ps.length) : Con P w K mg base CX 0 at_ ps (spF K n f) := by
  have no : ∀ vs H Q E, spF K n f vs H Q E → False := fun vs H Q E ⟨ds, m, F, α, W, R, p⟩ => by
    unfold gd at p
    split at p
    · rw [hf] at p; exact p
    · exact p
  exact ⟨⟨fd, ⟨fun vs H Q E h => (no vs H Q E h).elim, fun _ _ _ _ _ _ vs Q E _ _ _ _ h => (no _ _ _ _ h).elim⟩, hb⟩, F.kp⟩
end
section
variable {X : Cx} {CX : CXT} {k n : Nat} {ps : List Str} {E : St → XK} {x m C : Str} {p pos apos : Pos} {e o : Expr} {es : List Expr} {fo : FE} {fr : FA} {f : FN}
theorem pp_fcall (G : Con X.prog X.w X.K X.mg X.base CX k (x, none) ps (spF X.K n f)) (hr : Room k X.A) (hg : Gl X x) (hm : X.mg x = some (.ref (He.ga X.K x))) (hx : ∀ σ, PassesAt CX X σ (E σ))
    (ha : PA X (e :: es) (tA X.K E fr)) (hdb : (x == ("__debug__" : Str)) = false := by decide) (he : starEach (e :: es) X.env = (false, eval e X.env) :: starEach es X.env := by rfl) (hpl : (backTo pos (starEach es X.env)).any (·.1) = false := by rfl) :
    PE X (.Call (.Name x p) (e :: es) [] pos) (tP X.K E (fCall (gd n f) fr)) :=
  pe_imp (pe_fz (E := E) G hr hg hm hx ha hdb he hpl) fun σ H Q ⟨ρ, m, F, α, W, R, p⟩ => tA_bind W R p fun ds m1 F1 α1 H1 vs e1 W1 R1 rs p1 => ⟨ds, m1, F1, α1, W1, rs, p1⟩
theorem pp_fcall0 (G : Con X.prog X.w X.K X.mg X.base CX k (x, none) ps (spF X.K n f)) (hr : Room k X.A) (hg : Gl X x) (hm : X.mg x = some (.ref (He.ga X.K x))) (hx : ∀ σ, PassesAt CX X σ (E σ))
    (hdb : (x == ("__debug__" : Str)) = false := by decide) : PE X (.Call (.Name x p) [] [] pos) (tP X.K E (fCall (gd n f) fNil)) :=
  pe_imp (pe_fz0 (E := E) G hr hg hm hx hdb) fun σ H Q ⟨ρ, m, F, α, W, R, p⟩ => ⟨[], m, F, α, W, .nil, p⟩
end
/-- the law: a list of ints comes in, True goes out -/
def spLawP (K : PySem.W.Frag) : Sp := fun vs H Q _ => ∃ (a : Addr) (ns : List Int), vs = [.ref a] ∧ SqL K H a (ns.map V.int) ∧ ns.length ≤ 63 ∧ ∀ H', Q (.bl true) H'
theorem law_spF {K : PySem.W.Frag} {f : FN} (hl : ∀ ns : List Int, ns.length ≤ 63 → ∃ m', f [.xls (ns.map .int)] [] = .ok (.bl true) m') {vs H Q E} (h : spLawP K vs H Q E) : spF K 1 f vs H Q E := by
  obtain ⟨a, ns, rfl, hs, hn, q⟩ := h
  obtain ⟨m', e⟩ := hl ns hn
  refine ⟨[.xls (ns.map .int)], [], fun b => ∃ o, H b = some o, [], ⟨rfl, List.nodup_nil, fun _ h => (List.not_mem_nil h).elim, fun _ h => h, fun n c a h => by simp at h⟩, .cons (.xls ?_ (.ints ns)) .nil, ?_⟩
  · rcases hs with hs | hs
    · exact .inl ⟨Rd.some hs, hs⟩
    · exact .inr fun H1 => .inr hs
  · unfold gd
    rw [if_pos (show [P.xls (ns.map P.int)].length = 1 from rfl), e]
    intro v F' α' H' _ _ r
    cases r
    exact q H'
end
/-! N8 -/
section
open PySem PySem.Spec PyProof.Rows
/-! ### order -/
def rCm (K : PySem.W.Frag) (o : Cm) : R2 := fun x y H Q => ∃ d e b, Dp K H x d ∧ Dp K H y e ∧ d.canLay0 = true ∧ e.canLay0 = true ∧ d.depth ≤ 64 ∧ cmpO o 8 d e = some b ∧ Q (.bl b) H
theorem op_cm {X : Cx} (o : Cm) (hu : X.A.units + 200 < cLine) : OpR X (compareOp o.op) (rCm X.K o) := by
  intro pins s σ H x y v u Q I rx ry h
  obtain ⟨d, e, b, hd, he, l1, l2, hz, hc, q⟩ := h
  obtain ⟨as, r1⟩ := Dp.reads I d x v hd rx
  obtain ⟨bs, r2⟩ := Dp.reads I e y u he ry
  have hh := rc_cmpO o 8 d e X.A s v u as bs b r1 r2 l1 l2 hz (by omega) hc
  cases o <;> exact hh X.prog X.w X.xe _ ⟨.bl _, H, I, rfl, q⟩
def cmD (o : Cm) (a b : PyData) : Option Bool := if (a.canLay0 && b.canLay0 && decide (a.depth ≤ 64)) = true then cmpO o 8 a b else none
def oCm (o : Cm) (d e : P) (m : M) : Res P := match d, e with
  | .int a, .int b => .ok (.bl (o.int a b)) m
  | d, e => match (sh m d).data, (sh m e).data with
    | some a, some b => match cmD o a b with
      | some r => .ok (.bl r) m
      | none => .stuck
    | _, _ => .stuck
theorem p_cm {K : PySem.W.Frag} (o : Cm) : OpP K (rCm K o) (oCm o) := by
  intro F α m H d e x y Q E W rx ry p
  unfold oCm at p
  split at p
  · rename_i a b
    cases rx; cases ry
    exact ⟨.int a, .int b, _, .int a, .int b, by simp [PyData.canLay0], by simp [PyData.canLay0], by simp [PyData.depth], by unfold cmpO; rfl, p.here W (.bl _)⟩
  · split at p
    · rename_i a b h1 h2
      split at p
      · rename_i r hr
        unfold cmD at hr
        split at hr
        · rename_i hc
          simp only [Bool.and_eq_true, decide_eq_true_eq] at hc
          exact ⟨a, b, r, sh_dp W rx h1, sh_dp W ry h2, hc.1.1, hc.1.2, hc.2, hr, p.here W (.bl _)⟩
        · cases hr
      · exact p.elim
    · exact p.elim
/-! ### min, max of two -/
def intsP : List P → Option (List Int)
  | [] => some []
  | .int i :: r => (intsP r).map (i :: ·)
  | _ :: _ => none
theorem intsP_rps {K F α H} : ∀ {xs : List P} {vs : List V} {ns : List Int}, Rps K F α H xs vs → intsP xs = some ns → vs = ns.map V.int
  | [], _, ns, r, h => by cases r; simp only [intsP, Option.some.injEq] at h; subst h; rfl
  | x :: xs, _, ns, r, h => by
    cases r with
    | cons r1 rr =>
      cases x <;> simp only [intsP] at h <;> try cases h
      obtain ⟨ms, h1, rfl⟩ := Option.map_eq_some_iff.mp h
      cases r1
      rw [intsP_rps rr h1]
      rfl
def oMax2 (ds : List P) (m : M) : Res P := match ds with
  | [.int a, .int b] => .ok (.int (if b > a then b else a)) m
  | [.tup xs, .tup ys] => match intsP xs, intsP ys with
    | some ns, some ms => .ok (if lexI ns ms = true then .tup ys else .tup xs) m
    | _, _ => .stuck
  | _ => .stuck
def oMin2 (ds : List P) (m : M) : Res P := match ds with
  | [.int a, .int b] => .ok (.int (if b < a then b else a)) m
  | [.tup xs, .tup ys] => match intsP xs, intsP ys with
    | some ns, some ms => .ok (if lexI ms ns = true then .tup ys else .tup xs) m
    | _, _ => .stuck
  | _ => .stuck
def rMaxZ (K : PySem.W.Frag) : List V → Hp → VK → Prop := fun xs H Q => rMax2 xs H Q ∨ rMaxT K xs H Q
def rMinZ (K : PySem.W.Frag) : List V → Hp → VK → Prop := fun xs H Q => rMin2 xs H Q ∨ rMinT K xs H Q
theorem c_max {X : Cx} (hc : X.calm = true) (hu : X.A.units + 64 < cLine) : CallR X (.builtin "max") (rMaxZ X.K) := CallR.alt (cMax2 hc) (cMaxT hc hu)
theorem c_min {X : Cx} (hc : X.calm = true) (hu : X.A.units + 64 < cLine) : CallR X (.builtin "min") (rMinZ X.K) := CallR.alt (cMin2 hc) (cMinT hc hu)
theorem p_max {K : PySem.W.Frag} : CallP K (rMaxZ K) oMax2 := by
  intro F α m H d x Q E W rx p
  unfold oMax2 at p
  split at p
  · obtain ⟨v, w, rfl, r1, r2⟩ := rx.two
    cases r1; cases r2
    exact .inl ⟨_, _, rfl, p.here W (.int _)⟩
  · split at p
    · rename_i xs ys ns ms h1 h2
      obtain ⟨v, w, rfl, r1, r2⟩ := rx.two
      obtain ⟨a, vs, rfl, f1, e1, q1⟩ := tv_ok r1
      obtain ⟨b, ws, rfl, f2, e2, q2⟩ := tv_ok r2
      have z1 := intsP_rps q1 h1
      have z2 := intsP_rps q2 h2
      subst z1 z2
      refine .inr ⟨a, b, ns, ms, rfl, Evl.st_of e1, Evl.st_of e2, ?_⟩
      split at p
      · rename_i hl; rw [if_pos hl]; exact p.here W r2
      · rename_i hl; rw [if_neg hl]; exact p.here W r1
    · exact p.elim
  · exact p.elim
theorem p_min {K : PySem.W.Frag} : CallP K (rMinZ K) oMin2 := by
  intro F α m H d x Q E W rx p
  unfold oMin2 at p
  split at p
  · obtain ⟨v, w, rfl, r1, r2⟩ := rx.two
    cases r1; cases r2
    exact .inl ⟨_, _, rfl, p.here W (.int _)⟩
  · split at p
    · rename_i xs ys ns ms h1 h2
      obtain ⟨v, w, rfl, r1, r2⟩ := rx.two
      obtain ⟨a, vs, rfl, f1, e1, q1⟩ := tv_ok r1
      obtain ⟨b, ws, rfl, f2, e2, q2⟩ := tv_ok r2
      have z1 := intsP_rps q1 h1
      have z2 := intsP_rps q2 h2
      subst z1 z2
      refine .inr ⟨a, b, ns, ms, rfl, Evl.st_of e1, Evl.st_of e2, ?_⟩
      split at p
      · rename_i hl; rw [if_pos hl]; exact p.here W r2
      · rename_i hl; rw [if_neg hl]; exact p.here W r1
    · exact p.elim
  · exact p.elim
/-! ### in -/
def flatP : P → Bool
  | .non => true
  | .bl _ => true
  | .int _ => true
  | .str _ => true
  | _ => false
def eqFP : P → P → Bool
  | .non, .non => true
  | .bl a, .bl b => a == b
  | .bl a, .int b => (if a then 1 else 0) == b
  | .int a, .bl b => a == (if b then 1 else 0)
  | .int a, .int b => a == b
  | .str a, .str b => a == b
  | _, _ => false
def sv (m : M) : P → Option (List P)
  | .tup xs => some xs
  | d => lv m d
def oIn (d e : P) (m : M) : Res P := match sv m e with
  | some xs => if (flatP d && xs.all flatP) = true then .ok (.bl (xs.any fun y => eqFP y d)) m else .stuck
  | none => .stuck
def oNotIn (d e : P) (m : M) : Res P := match sv m e with
  | some xs => if (flatP d && xs.all flatP) = true then .ok (.bl (!xs.any fun y => eqFP y d)) m else .stuck
  | none => .stuck
section
variable {K : PySem.W.Frag} {F : Addr → Prop} {α : List Addr} {H : Hp} {m : M}
theorem flat_rp {d : P} {v : V} (r : Rp K F α H d v) : flatV v = true ∨ flatP d = false := by cases r <;> simp [flatP, flatV]
theorem flat_of {d : P} {v : V} (r : Rp K F α H d v) (h : flatP d = true) : flatV v = true := (flat_rp r).elim id fun q => by rw [h] at q; cases q
theorem flats_of : ∀ {d : List P} {v : List V}, Rps K F α H d v → d.all flatP = true → v.all flatV = true
  | _, _, .nil, _ => rfl
  | _, _, .cons r t, h => by
    simp only [List.all_cons, Bool.and_eq_true] at h ⊢
    exact ⟨flat_of r h.1, flats_of t h.2⟩
theorem eqF_of {d e : P} {v w : V} (r : Rp K F α H d v) (s : Rp K F α H e w) (h : flatP d = true) (h2 : flatP e = true) : eqV v w = eqFP d e := by
  cases r <;> cases s <;> simp_all [flatP, eqV, eqFP]
theorem any_of {e : P} {w : V} (s : Rp K F α H e w) (h2 : flatP e = true) : ∀ {d : List P} {v : List V}, Rps K F α H d v → d.all flatP = true → v.any (fun y => eqV y w) = d.any fun y => eqFP y e
  | _, _, .nil, _ => rfl
  | _, _, .cons r t, h => by
    simp only [List.all_cons, Bool.and_eq_true] at h
    simp only [List.any_cons, eqF_of r s h.1 h2, any_of s h2 t h.2]
theorem sv_ok {d : P} {v : V} {xs : List P} (W : Wk K F α m H) (r : Rp K F α H d v) (h : sv m d = some xs) : ∃ a vs, v = .ref a ∧ (SqL K H a vs ∨ SqT K H a vs) ∧ Rps K F α H xs vs := by
  unfold sv at h
  split at h
  · cases h
    obtain ⟨a, vs, rfl, f, e1, r1⟩ := tv_ok r
    exact ⟨a, vs, rfl, .inr (Evl.st_of e1), r1⟩
  · obtain ⟨a, vs, rfl, e1, r1⟩ := lv_ok W r h
    exact ⟨a, vs, rfl, .inl e1, r1⟩
theorem p_in : OpP K (rIn K false) oIn := by
  intro F α m H d e x y Q E W rx ry p
  unfold oIn at p
  split at p
  · rename_i xs hx
    obtain ⟨hf, p⟩ := iteG p
    rw [Bool.and_eq_true] at hf
    obtain ⟨a, vs, rfl, e1, r1⟩ := sv_ok W ry hx
    refine ⟨a, vs, rfl, e1, flat_of rx hf.1, flats_of r1 hf.2, ?_⟩
    rw [if_neg Bool.false_ne_true]
    unfold inV
    rw [any_of rx hf.1 r1 hf.2]
    exact p.here W (.bl _)
  · exact p.elim
theorem p_notin : OpP K (rIn K true) oNotIn := by
  intro F α m H d e x y Q E W rx ry p
  unfold oNotIn at p
  split at p
  · rename_i xs hx
    obtain ⟨hf, p⟩ := iteG p
    rw [Bool.and_eq_true] at hf
    obtain ⟨a, vs, rfl, e1, r1⟩ := sv_ok W ry hx
    refine ⟨a, vs, rfl, e1, flat_of rx hf.1, flats_of r1 hf.2, ?_⟩
    rw [if_pos rfl]
    unfold inV
    rw [any_of rx hf.1 r1 hf.2]
    exact p.here W (.bl _)
  · exact p.elim
end
/-! ### methods -/
def fMt (ty : M → P → Bool) (o : P → List P → M → Res P) (fo : FE) (fa : FA) : FE := fun ρ m => (fo ρ m).bind fun d m1 => if ty m1 d = true then (fa ρ m1).bind fun ds m2 => o d ds m2 else .stuck
def MtP (K : PySem.W.Frag) (r : V → List V → Hp → VK → Prop) (o : P → List P → M → Res P) : Prop := ∀ {F α m H d ds x xs Q E}, Wk K F α m H → Rp K F α H d x → Rps K F α H ds xs → Post K (VR K) (o d ds m) F α H Q E → r x xs H Q
def isL (m : M) (d : P) : Bool := (lv m d).isSome
def isS (_ : M) : P → Bool
  | .str _ => true
  | _ => false
def TyP (K : PySem.W.Frag) (T : String) (ty : M → P → Bool) : Prop := ∀ {F α m H d x}, Wk K F α m H → Rp K F α H d x → ty m d = true → tyV K T x H
theorem ty_list {K : PySem.W.Frag} : TyP K "list" isL := fun W r h => by
  obtain ⟨xs, hx⟩ := Option.isSome_iff_exists.mp h
  obtain ⟨a, vs, rfl, e1, r1⟩ := lv_ok W r hx
  exact .inl ⟨rfl, vs, e1⟩
theorem ty_str {K : PySem.W.Frag} : TyP K "str" isS := fun W r h => by cases r <;> first | rfl | cases h
def oAppend (d : P) (ds : List P) (m : M) : Res P := match d, ds with
  | .cell n, [y] => match m[n]? with
    | some (.lst xs) => if decide (xs.length < 100000) = true then .ok .non (m.set n (.lst (xs ++ [y]))) else .stuck
    | _ => .stuck
  | _, _ => .stuck
def oExtend (d : P) (ds : List P) (m : M) : Res P := match d, ds with
  | .cell n, [e] => match m[n]?, lw m e with
    | some (.lst xs), some ys => if fits (xs.length + ys.length) = true then .ok .non (m.set n (.lst (xs ++ ys))) else .stuck
    | _, _ => .stuck
  | _, _ => .stuck
def oPop (d : P) (ds : List P) (m : M) : Res P := match d, ds with
  | .cell n, [] => match m[n]? with
    | some (.lst xs) => match xs[xs.length - 1]? with
      | some y => .ok y (m.set n (.lst xs.dropLast))
      | none => .stuck
    | _ => .stuck
  | .cell n, [.int i] => match m[n]? with
    | some (.lst xs) => if decide (-(2 ^ 63) ≤ i ∧ i < 2 ^ 63) = true then match seqIndex? i xs.length with
      | some k => match xs[k]? with
        | some y => .ok y (m.set n (.lst (xs.eraseIdx k)))
        | none => .stuck
      | none => .stuck
      else .stuck
    | _ => .stuck
  | _, _ => .stuck
def oLIndex (d : P) (ds : List P) (m : M) : Res P := match ds with
  | [y] => match lv m d with
    | some xs => if (flatP y && xs.all flatP) = true then match xs.findIdx? fun z => eqFP z y with
      | some j => .ok (.int (j : Nat)) m
      | none => .stuck
      else .stuck
    | none => .stuck
  | _ => .stuck
def oSIndex (d : P) (ds : List P) (m : M) : Res P := match d, ds with
  | .str a, [.str b] => match Builtin.Str.occurrences a b 0 a.length 1 with
    | i :: _ => .ok (.int (i : Nat)) m
    | [] => .stuck
  | _, _ => .stuck
section
variable {K : PySem.W.Frag}
theorem p_append : MtP K rAppend oAppend := by
  intro F α m H d ds x xs Q E W rx rs p
  unfold oAppend at p
  split at p
  · rename_i n y
    split at p
    · rename_i ys hn
      obtain ⟨hl, p⟩ := iteG p
      cases rx
      rename_i a ha
      obtain ⟨v, rfl, r1⟩ := rs.only
      obtain ⟨o, ho, hc⟩ := W.at_ n _ a hn ha
      cases o <;> first | exact hc.elim | skip
      rename_i vs
      have hr : Rps K F α H ys vs := hc
      obtain ⟨e, W'⟩ := W.put ha (c := .lst (ys ++ [y])) (o := .lst (vs ++ [v])) (hr.append (.one r1))
      exact ⟨a, vs, v, rfl, rfl, ho, by rw [← hr.length]; exact Nat.lt_of_lt_of_le (of_decide_eq_true hl) (by decide), p _ _ _ _ e W' .non⟩
    · exact p.elim
  · exact p.elim
theorem p_extend : MtP K rExtend oExtend := by
  intro F α m H d ds x xs Q E W rx rs p
  unfold oExtend at p
  split at p
  · rename_i n y
    split at p
    · rename_i xs' ys hn hy
      obtain ⟨hl, p⟩ := iteG p
      cases rx
      rename_i a ha
      obtain ⟨v, rfl, r1⟩ := rs.only
      obtain ⟨b, ws, rfl, e2, r2⟩ := lw_ok W r1 hy
      obtain ⟨o, ho, hc⟩ := W.at_ n _ a hn ha
      cases o <;> first | exact hc.elim | skip
      rename_i vs
      have hr : Rps K F α H xs' vs := hc
      obtain ⟨e, W'⟩ := W.put ha (c := .lst (xs' ++ ys)) (o := .lst (vs ++ ws)) (hr.append r2)
      exact ⟨a, b, vs, ws, rfl, rfl, ho, e2, by rw [← hr.length, ← r2.length]; exact fits_ok hl, p _ _ _ _ e W' .non⟩
    · exact p.elim
  · exact p.elim
theorem p_lindex : MtP K (rIndex K) oLIndex := by
  intro F α m H d ds x xs Q E W rx rs p
  unfold oLIndex at p
  split at p
  · rename_i y
    split at p
    · rename_i ys hy
      obtain ⟨hf, p⟩ := iteG p
      rw [Bool.and_eq_true] at hf
      split at p
      · rename_i j hj
        obtain ⟨v, rfl, r1⟩ := rs.only
        obtain ⟨a, vs, rfl, e1, r2⟩ := lv_ok W rx hy
        obtain ⟨hlt, h1, h2⟩ := List.findIdx?_eq_some_iff_getElem.mp hj
        have all : ∀ (i : Nat) (h : i < ys.length), flatP ys[i] = true := fun i h => List.all_eq_true.mp hf.2 _ (List.getElem_mem h)
        obtain ⟨w, hw, rw'⟩ := r2.get (List.getElem?_eq_getElem hlt)
        refine ⟨a, vs, v, j, w, rfl, rfl, e1, flat_of r1 hf.1, flats_of r2 hf.2, hw, ?_, fun k z' hk hz => ?_, p.here W (.int _)⟩
        · rw [eqF_of rw' r1 (all j hlt) hf.1]; exact h1
        · have hk' : k < ys.length := by omega
          obtain ⟨z, hz2, rz⟩ := r2.get (List.getElem?_eq_getElem hk')
          rw [hz] at hz2; cases hz2
          rw [eqF_of rz r1 (all k hk') hf.1]
          simpa using h2 k hk
      · exact p.elim
    · exact p.elim
  · exact p.elim
end
theorem tBM_of {K : PySem.W.Frag} {E : St → XK} {fo : FE} {fr : FA} {T : String} {ty : M → P → Bool} {r : V → List V → Hp → VK → Prop} {o : P → List P → M → Res P} (ht : TyP K T ty) (ho : MtP K r o) {σ H Q} (w : tP K E (fMt ty o fo fr) σ H Q) : tBM K T r (tP K E fo) (tA K E fr) σ H Q := by
  obtain ⟨ρ, m, F, α, W, R, p⟩ := w
  refine tP_bind W R p fun d m1 F1 α1 H1 x e1 W1 R1 rx p1 => ?_
  obtain ⟨hty, p1⟩ := iteG p1
  exact ⟨ht W1 rx hty, tA_bind W1 R1 p1 fun ds m2 F2 α2 H2 ys e2 W2 R2 rs p2 => ho W2 (rx.mono W1.nf e2) rs p2⟩
theorem tBM0_of {K : PySem.W.Frag} {E : St → XK} {fo : FE} {T : String} {ty : M → P → Bool} {r : V → List V → Hp → VK → Prop} {o : P → List P → M → Res P} (ht : TyP K T ty) (ho : MtP K r o) {σ H Q} (w : tP K E (fMt ty o fo fNil) σ H Q) : tBM0 K T r (tP K E fo) σ H Q := by
  obtain ⟨ρ, m, F, α, W, R, p⟩ := w
  refine tP_bind W R p fun d m1 F1 α1 H1 x e1 W1 R1 rx p1 => ?_
  obtain ⟨hty, p1⟩ := iteG p1
  exact ⟨ht W1 rx hty, ho W1 rx .nil p1⟩
/-- one of two receivers, by what it is -/
def fMt2 (ty1 ty2 : M → P → Bool) (o1 o2 : P → List P → M → Res P) (fo : FE) (fa : FA) : FE := fun ρ m => (fo ρ m).bind fun d m1 => if ty1 m1 d = true then (fa ρ m1).bind fun ds m2 => o1 d ds m2 else if ty2 m1 d = true then (fa ρ m1).bind fun ds m2 => o2 d ds m2 else .stuck
theorem fMt2_sel {K : PySem.W.Frag} {E : St → XK} {ty1 ty2 : M → P → Bool} {o1 o2 : P → List P → M → Res P} {fo : FE} {fa : FA} {σ H Q} (w : tP K E (fMt2 ty1 ty2 o1 o2 fo fa) σ H Q) : tP K E (fMt ty1 o1 fo fa) σ H Q ∨ tP K E (fMt ty2 o2 fo fa) σ H Q := by
  obtain ⟨ρ, m, F, α, W, R, p⟩ := w
  cases hf : fo ρ m with
  | ok d m1 =>
    by_cases h1 : ty1 m1 d = true
    · refine .inl ⟨ρ, m, F, α, W, R, ?_⟩
      simp only [fMt2, fMt, hf, Res.bind, if_pos h1] at p ⊢
      exact p
    · refine .inr ⟨ρ, m, F, α, W, R, ?_⟩
      simp only [fMt2, fMt, hf, Res.bind, if_neg h1] at p ⊢
      exact p
  | exc c fs m1 =>
    refine .inl ⟨ρ, m, F, α, W, R, ?_⟩
    simp only [fMt2, fMt, hf, Res.bind] at p ⊢
    exact p
  | stuck =>
    simp only [fMt2, hf, Res.bind] at p
    exact p.elim
section
variable {X : Cx} {E : St → XK} {o e : Expr} {es : List Expr} {apos cpos : Pos} {fo : FE} {fr : FA} {T : String} {name : Str} {id : String} {ty : M → P → Bool} {r : V → List V → Hp → VK → Prop} {oo : P → List P → M → Res P}
theorem pp_mt (pa : PlainAttrs T) (slot : Slot T name id) (hty : typeOf (.builtin id) = pure (.type "method_descriptor")) (hm : MtR X id r) (ht : TyP X.K T ty) (hop : MtP X.K r oo) (ho : PE X o (tP X.K E fo)) (ha : PA X (e :: es) (tA X.K E fr))
    (hbase : attributeBase o name X.env (eval o X.env) = eval o X.env := by rfl)
    (hfew : ((backTo cpos (starEach (e :: es) X.env)).all (fun x => !x.1) && (backToKw cpos (keywordEach [] X.env)).all (fun x => x.1.isSome)
      && decide ((e :: es).length + ([] : List Keyword).length + (if ([] : List Keyword).isEmpty then 0 else 1) < 30)) = true := by rfl)
    (hline : (apos.endLine == cpos.line) = true := by rfl) (hs : starEach (e :: es) X.env = (false, eval e X.env) :: starEach es X.env := by rfl) (hplain : (backTo cpos (starEach es X.env)).any (·.1) = false := by rfl) :
    PE X (.Call (.Attribute o name apos) (e :: es) [] cpos) (tP X.K E (fMt ty oo fo fr)) := pe_imp (pe_bm pa slot hty hm ho ha hbase hfew hline hs hplain) fun σ H Q w => tBM_of ht hop w
theorem pp_mt0 (pa : PlainAttrs T) (slot : Slot T name id) (hty : typeOf (.builtin id) = pure (.type "method_descriptor")) (hm : MtR X id r) (ht : TyP X.K T ty) (hop : MtP X.K r oo) (ho : PE X o (tP X.K E fo))
    (hbase : attributeBase o name X.env (eval o X.env) = eval o X.env := by rfl) (hline : (apos.endLine == cpos.line) = true := by rfl) : PE X (.Call (.Attribute o name apos) [] [] cpos) (tP X.K E (fMt ty oo fo fNil)) :=
  pe_imp (pe_bm0 pa slot hty hm ho hbase hline) fun σ H Q w => tBM0_of ht hop w
def rSIdx : V → List V → Hp → VK → Prop := fun x xs H Q => ∃ a b i rest, x = .str a ∧ xs = [.str b] ∧ Builtin.Str.occurrences a b 0 a.length 1 = i :: rest ∧ Q (.int (i : Nat)) H
theorem p_sindex {K : PySem.W.Frag} : MtP K rSIdx oSIndex := by
  intro F α m H d ds x xs Q E W rx rs p
  unfold oSIndex at p
  split at p
  · split at p
    · rename_i i rest hi
      cases rx
      obtain ⟨v, rfl, r1⟩ := rs.only
      cases r1
      exact ⟨_, _, i, rest, rfl, rfl, hi, p.here W (.int _)⟩
    · exact p.elim
  · exact p.elim
theorem pp_index (ho : PE X o (tP X.K E fo)) (ha : PA X (e :: es) (tA X.K E fr))
    (hbase : attributeBase o "index" X.env (eval o X.env) = eval o X.env := by rfl)
    (hfew : ((backTo cpos (starEach (e :: es) X.env)).all (fun x => !x.1) && (backToKw cpos (keywordEach [] X.env)).all (fun x => x.1.isSome)
      && decide ((e :: es).length + ([] : List Keyword).length + (if ([] : List Keyword).isEmpty then 0 else 1) < 30)) = true := by rfl)
    (hline : (apos.endLine == cpos.line) = true := by rfl) (hs : starEach (e :: es) X.env = (false, eval e X.env) :: starEach es X.env := by rfl) (hplain : (backTo cpos (starEach es X.env)).any (·.1) = false := by rfl) :
    PE X (.Call (.Attribute o "index" apos) (e :: es) [] cpos) (tP X.K E (fMt2 isL isS oLIndex oSIndex fo fr)) :=
  pe_imp (pe_alt (pe_bm F.plainAttrs_list F.slot_list_index F.type_list_index mt_index ho ha hbase hfew hline hs hplain) (pe_bm F.plainAttrs_str F.slot_str_index F.type_str_index (r := rSIdx) mt_sindex ho ha hbase hfew hline hs hplain))
    fun σ H Q w => (fMt2_sel w).imp (fun z => tBM_of ty_list p_lindex z) fun z => tBM_of ty_str p_sindex z
end
/-! ### str.join -/
def strsP : List P → Option (List Str)
  | [] => some []
  | .str i :: r => (strsP r).map (i :: ·)
  | _ :: _ => none
theorem strsP_rps {K F α H} : ∀ {xs : List P} {vs : List V} {ns : List Str}, Rps K F α H xs vs → strsP xs = some ns → vs = ns.map V.str
  | [], _, ns, r, h => by cases r; simp only [strsP, Option.some.injEq] at h; subst h; rfl
  | x :: xs, _, ns, r, h => by
    cases r with
    | cons r1 rr =>
      cases x <;> simp only [strsP] at h <;> try cases h
      obtain ⟨ms, h1, rfl⟩ := Option.map_eq_some_iff.mp h
      cases r1
      rw [strsP_rps rr h1]
      rfl
def oJoin (d e : P) (m : M) : Res P := match d, sv m e with
  | .str a, some xs => match strsP xs with
    | some ys => if decide ((ys.map (·.length)).sum + ys.length * a.length ≤ 16777216) = true then .ok (.str (Txt.join a ys)) m else .stuck
    | none => .stuck
  | _, _ => .stuck
def fJoin (fo fe : FE) : FE := fun ρ m => (fo ρ m).bind fun d m1 => if isS m1 d = true then (fe ρ m1).bind fun e m2 => oJoin d e m2 else .stuck
theorem pp_join {X : Cx} {E : St → XK} {o e : Expr} {fo fe : FE} {apos pos : Pos} (ho : PE X o (tP X.K E fo)) (he : PE X e (tP X.K E fe)) (hs : starEach [e] X.env = [(false, eval e X.env)] := by rfl) (hbase : attributeBase o "join" X.env (eval o X.env) = eval o X.env := by rfl) (hline : (apos.endLine == pos.line) = true := by rfl) :
    PE X (.Call (.Attribute o "join" apos) [e] [] pos) (tP X.K E (fJoin fo fe)) :=
  pe_imp (pe_join ho he hs hbase hline) fun σ H Q ⟨ρ, m, F, α, W, R, p⟩ => tP_bind W R p fun d m1 F1 α1 H1 x e1 W1 R1 rx p1 => by
    obtain ⟨hty, p1⟩ := iteG p1
    have hx : ∃ z, d = .str z := by cases d <;> first | exact ⟨_, rfl⟩ | cases hty
    obtain ⟨z, rfl⟩ := hx
    cases rx
    refine ⟨⟨z, rfl⟩, tP_bind W1 R1 p1 fun d2 m2 F2 α2 H2 y e2 W2 R2 ry p2 => ?_⟩
    unfold oJoin at p2
    split at p2
    · rename_i a xs hx ha
      cases hx
      split at p2
      · rename_i ys hy
        obtain ⟨hz, p2⟩ := iteG p2
        obtain ⟨b, vs, rfl, e3, r3⟩ := sv_ok W2 ry ha
        have := strsP_rps r3 hy
        subst this
        exact ⟨_, b, ys, rfl, rfl, e3, of_decide_eq_true hz, p2.here W2 (.str _)⟩
      · exact p2.elim
    · exact p2.elim
end
/-! N9 -/
section
open PySem PySem.Spec PyProof.Rows
theorem u200 {k : Nat} {A : Around} (h : Room k A) : A.units + 200 < cLine := by have := h.un; omega
end
/-! M01 -/
section
open PySem PySem.Spec PyProof.Rows
/-- a value of a row -/
inductive Kv where
  | n (i : Int)
  | t (x : List Nat)
  deriving DecidableEq
def GoodC (c : Nat) : Prop := 32 ≤ c ∧ c ≤ 126 ∧ c ≠ 37
instance (c : Nat) : Decidable (GoodC c) := by unfold GoodC; infer_instance
def Kv.Good : Kv → Prop
  | .n i => -(10 ^ 9) ≤ i ∧ i ≤ 10 ^ 9
  | .t x => x.length ≤ 6 ∧ ∀ c ∈ x, GoodC c
def Kv.kind : Kv → Int
  | .n _ => 0
  | .t _ => 1
def strL (x : List Nat) : Str := ⟨x.toArray⟩
def Kv.v : Kv → V
  | .n i => .int i
  | .t x => .str (strL x)
def dig5 (m : Int) : List Int := [m / 4294967296 % 256, m / 16777216 % 256, m / 65536 % 256, m / 256 % 256, m % 256]
def kb : Kv → List Int
  | .n i => 1 :: dig5 (i + 549755813888)
  | .t x => 2 :: (x.map (fun c : Nat => (c : Int)) ++ [0])
def keyB : List Kv → List Int
  | [] => []
  | v :: vs => kb v ++ keyB vs
theorem keyB_append (a b : List Kv) : keyB (a ++ b) = keyB a ++ keyB b := by
  induction a with
  | nil => rfl
  | cons v vs ih => show kb v ++ keyB (vs ++ b) = kb v ++ keyB vs ++ keyB b; rw [ih, List.append_assoc]
/-! ### the order -/
def lexN : List Nat → List Nat → Bool
  | [], [] => false
  | [], _ :: _ => true
  | _ :: _, [] => false
  | x :: xs, y :: ys => if x = y then lexN xs ys else decide (x < y)
def Kv.lt : Kv → Kv → Bool
  | .n i, .n j => decide (i < j)
  | .n _, .t _ => true
  | .t _, .n _ => false
  | .t x, .t y => lexN x y
def rowLt : List Kv → List Kv → Bool
  | [], [] => false
  | [], _ :: _ => true
  | _ :: _, [] => false
  | x :: xs, y :: ys => if x = y then rowLt xs ys else x.lt y
theorem lexI_pre (p a b : List Int) : lexI (p ++ a) (p ++ b) = lexI a b := by
  induction p with
  | nil => rfl
  | cons x p ih => show (if x = x then lexI (p ++ a) (p ++ b) else _) = _; rw [if_pos rfl, ih]
theorem lexI_ne {c d : Int} (h : c ≠ d) (a b : List Int) : lexI (c :: a) (d :: b) = decide (c < d) := by
  show (if c = d then _ else _) = _
  rw [if_neg h]
theorem lexI_self (a : List Int) : lexI a a = false := by
  have := lexI_pre a [] []
  rw [List.append_nil] at this
  exact this
/-- where two codes part -/
structure Part (a b : List Int) (lt : Bool) : Prop where
  ex : ∃ p c d s t, a = p ++ c :: s ∧ b = p ++ d :: t ∧ c ≠ d ∧ lt = decide (c < d)
theorem Part.lexI {a b : List Int} {lt : Bool} (h : Part a b lt) (x y : List Int) : lexI (a ++ x) (b ++ y) = lt := by
  obtain ⟨p, c, d, s, t, rfl, rfl, hn, rfl⟩ := h.ex
  rw [List.append_assoc, List.append_assoc, lexI_pre]
  exact lexI_ne hn _ _
theorem Part.cons {a b : List Int} {lt : Bool} (h : Part a b lt) (z : Int) : Part (z :: a) (z :: b) lt := by
  obtain ⟨p, c, d, s, t, rfl, rfl, hn, e⟩ := h.ex
  exact ⟨z :: p, c, d, s, t, rfl, rfl, hn, e⟩
theorem Part.here {c d : Int} {s t : List Int} (h : c ≠ d) : Part (c :: s) (d :: t) (decide (c < d)) := ⟨[], c, d, s, t, rfl, rfl, h, rfl⟩
theorem Part.of {a b : List Int} {u v : Bool} (h : Part a b u) (e : u = v) : Part a b v := e ▸ h
theorem part_txt : ∀ x y : List Nat, (∀ c ∈ x, 0 < c) → (∀ c ∈ y, 0 < c) → x ≠ y → Part (x.map (fun c : Nat => (c : Int)) ++ [0]) (y.map (fun c : Nat => (c : Int)) ++ [0]) (lexN x y)
  | [], [], _, _, h => absurd rfl h
  | [], d :: y, _, hy, _ => (Part.here (c := 0) (d := (d : Int)) (by have := hy d List.mem_cons_self; omega)).of (by
      show _ = true
      exact decide_eq_true (by have := hy d List.mem_cons_self; omega))
  | c :: x, [], hx, _, _ => (Part.here (c := (c : Int)) (d := 0) (by have := hx c List.mem_cons_self; omega)).of (by
      show _ = false
      exact decide_eq_false (by have := hx c List.mem_cons_self; omega))
  | c :: x, d :: y, hx, hy, h => by
    by_cases e : c = d
    · subst e
      have ih := part_txt x y (fun z hz => hx z (List.mem_cons_of_mem _ hz)) (fun z hz => hy z (List.mem_cons_of_mem _ hz)) (fun k => h (by rw [k]))
      refine (ih.cons c).of ?_
      show _ = if c = c then lexN x y else _
      rw [if_pos rfl]
    · refine (Part.here (c := (c : Int)) (d := (d : Int)) (by omega)).of ?_
      show _ = if c = d then lexN x y else decide (c < d)
      rw [if_neg e, decide_eq_decide]
      omega
theorem part_dig {a b : Int} (ha : 0 ≤ a ∧ a < 1099511627776) (hb : 0 ≤ b ∧ b < 1099511627776) (h : a ≠ b) : Part (dig5 a) (dig5 b) (decide (a < b)) := by
  unfold dig5
  by_cases e4 : a / 4294967296 % 256 = b / 4294967296 % 256
  · rw [e4]
    refine Part.cons ?_ _
    by_cases e3 : a / 16777216 % 256 = b / 16777216 % 256
    · rw [e3]
      refine Part.cons ?_ _
      by_cases e2 : a / 65536 % 256 = b / 65536 % 256
      · rw [e2]
        refine Part.cons ?_ _
        by_cases e1 : a / 256 % 256 = b / 256 % 256
        · rw [e1]
          refine Part.cons ?_ _
          refine (Part.here (by omega)).of ?_
          rw [decide_eq_decide]
          omega
        · refine (Part.here e1).of ?_
          rw [decide_eq_decide]
          omega
      · refine (Part.here e2).of ?_
        rw [decide_eq_decide]
        omega
    · refine (Part.here e3).of ?_
      rw [decide_eq_decide]
      omega
  · refine (Part.here e4).of ?_
    rw [decide_eq_decide]
    omega
theorem part_kb {v w : Kv} (hv : v.Good) (hw : w.Good) (h : v ≠ w) : Part (kb v) (kb w) (v.lt w) := by
  cases v with
  | n i => cases w with
    | n j =>
      obtain ⟨h1, h2⟩ := hv
      obtain ⟨h3, h4⟩ := hw
      refine ((part_dig (a := i + 549755813888) (b := j + 549755813888) (by omega) (by omega) (fun k => h (by rw [show i = j by omega]))).cons 1).of ?_
      show _ = decide (i < j)
      rw [decide_eq_decide]
      omega
    | t y => exact (Part.here (by decide)).of rfl
  | t x => cases w with
    | n j => exact (Part.here (by decide)).of rfl
    | t y => exact (part_txt x y (fun c hc => by have := (hv.2 c hc).1; omega) (fun c hc => by have := (hw.2 c hc).1; omega) (fun k => h (by rw [k]))).cons 2
theorem kb_ne {v : Kv} : ∃ c r, kb v = c :: r ∧ (c = 1 ∨ c = 2) := by
  cases v with
  | n i => exact ⟨1, _, rfl, .inl rfl⟩
  | t x => exact ⟨2, _, rfl, .inr rfl⟩
theorem keyB_lt : ∀ xs ys : List Kv, (∀ v ∈ xs, v.Good) → (∀ v ∈ ys, v.Good) → lexI (keyB xs) (keyB ys) = rowLt xs ys
  | [], [], _, _ => rfl
  | [], y :: ys, _, _ => by
    obtain ⟨c, r, e, _⟩ := kb_ne (v := y)
    show lexI [] (kb y ++ keyB ys) = true
    rw [e]
    rfl
  | x :: xs, [], _, _ => by
    obtain ⟨c, r, e, _⟩ := kb_ne (v := x)
    show lexI (kb x ++ keyB xs) [] = false
    rw [e]
    rfl
  | x :: xs, y :: ys, hx, hy => by
    show lexI (kb x ++ keyB xs) (kb y ++ keyB ys) = if x = y then rowLt xs ys else x.lt y
    by_cases e : x = y
    · subst e
      rw [if_pos rfl, lexI_pre]
      exact keyB_lt xs ys (fun v hv => hx v (List.mem_cons_of_mem _ hv)) (fun v hv => hy v (List.mem_cons_of_mem _ hv))
    · rw [if_neg e]
      exact (part_kb (hx x List.mem_cons_self) (hy y List.mem_cons_self) e).lexI _ _
theorem keyB_inj : ∀ xs ys : List Kv, (∀ v ∈ xs, v.Good) → (∀ v ∈ ys, v.Good) → keyB xs = keyB ys → xs = ys
  | [], [], _, _, _ => rfl
  | [], y :: ys, _, _, h => by
    obtain ⟨c, r, e, _⟩ := kb_ne (v := y)
    have h' : [] = kb y ++ keyB ys := h
    rw [e] at h'; cases h'
  | x :: xs, [], _, _, h => by
    obtain ⟨c, r, e, _⟩ := kb_ne (v := x)
    have h' : kb x ++ keyB xs = [] := h
    rw [e] at h'; cases h'
  | x :: xs, y :: ys, hx, hy, h => by
    have h' : kb x ++ keyB xs = kb y ++ keyB ys := h
    by_cases e : x = y
    · subst e
      rw [keyB_inj xs ys (fun v hv => hx v (List.mem_cons_of_mem _ hv)) (fun v hv => hy v (List.mem_cons_of_mem _ hv)) (List.append_cancel_left h')]
    · obtain ⟨p, c, d, s, t, e1, e2, hn, _⟩ := (part_kb (hx x List.mem_cons_self) (hy y List.mem_cons_self) e).ex
      rw [e1, e2, List.append_assoc, List.append_assoc] at h'
      have := List.append_cancel_left h'
      injection this with k _
      exact absurd k hn
end
/-! NP -/
section
open PySem PySem.Spec PyProof.Rows
section
variable {m l : M} {k : Nat} {c : Cell}
@[simp] theorem st_get0 {c : Cell} {l : M} : (m ++ c :: l)[m.length]? = some c := by simp
@[simp] theorem st_get1 {c d : Cell} {l : M} : (m ++ c :: d :: l)[m.length + 1]? = some d := by
  rw [List.getElem?_append_right (by omega)]; simp
@[simp] theorem st_get2 {c d e : Cell} {l : M} : (m ++ c :: d :: e :: l)[m.length + 2]? = some e := by
  rw [List.getElem?_append_right (by omega)]
  have : m.length + 2 - m.length = 2 := by omega
  rw [this]; rfl
@[simp] theorem st_set0 {c d : Cell} {l : M} : (m ++ c :: l).set m.length d = m ++ d :: l := by
  rw [List.set_append, if_neg (by omega), Nat.sub_self]; rfl
@[simp] theorem st_set1 {c d e : Cell} {l : M} : (m ++ c :: d :: l).set (m.length + 1) e = m ++ c :: e :: l := by
  rw [List.set_append, if_neg (by omega), show m.length + 1 - m.length = 1 by omega]; rfl
@[simp] theorem st_set2 {c d e f : Cell} {l : M} : (m ++ c :: d :: e :: l).set (m.length + 2) f = m ++ c :: d :: f :: l := by
  rw [List.set_append, if_neg (by omega), show m.length + 2 - m.length = 2 by omega]; rfl
theorem kitS : kitB "str" "str" = some true := by decide +kernel
end
/-! ### kinds -/
@[simp] theorem kit_ii : kitB "int" "int" = some true := by decide +kernel
@[simp] theorem kit_ib : kitB "int" "bool" = some false := by decide +kernel
@[simp] theorem kit_is : kitB "int" "str" = some false := by decide +kernel
@[simp] theorem kit_it : kitB "int" "tuple" = some false := by decide +kernel
@[simp] theorem kit_il : kitB "int" "list" = some false := by decide +kernel
@[simp] theorem kit_id : kitB "int" "dict" = some false := by decide +kernel
@[simp] theorem kit_bi : kitB "bool" "int" = some true := by decide +kernel
@[simp] theorem kit_bb : kitB "bool" "bool" = some true := by decide +kernel
@[simp] theorem kit_bs : kitB "bool" "str" = some false := by decide +kernel
@[simp] theorem kit_bt : kitB "bool" "tuple" = some false := by decide +kernel
@[simp] theorem kit_bl : kitB "bool" "list" = some false := by decide +kernel
@[simp] theorem kit_bd : kitB "bool" "dict" = some false := by decide +kernel
@[simp] theorem kit_si : kitB "str" "int" = some false := by decide +kernel
@[simp] theorem kit_sb : kitB "str" "bool" = some false := by decide +kernel
@[simp] theorem kit_ss : kitB "str" "str" = some true := by decide +kernel
@[simp] theorem kit_st : kitB "str" "tuple" = some false := by decide +kernel
@[simp] theorem kit_sl : kitB "str" "list" = some false := by decide +kernel
@[simp] theorem kit_sd : kitB "str" "dict" = some false := by decide +kernel
@[simp] theorem kit_ti : kitB "tuple" "int" = some false := by decide +kernel
@[simp] theorem kit_tb : kitB "tuple" "bool" = some false := by decide +kernel
@[simp] theorem kit_ts : kitB "tuple" "str" = some false := by decide +kernel
@[simp] theorem kit_tt : kitB "tuple" "tuple" = some true := by decide +kernel
@[simp] theorem kit_tl : kitB "tuple" "list" = some false := by decide +kernel
@[simp] theorem kit_td : kitB "tuple" "dict" = some false := by decide +kernel
@[simp] theorem kit_li : kitB "list" "int" = some false := by decide +kernel
@[simp] theorem kit_lb : kitB "list" "bool" = some false := by decide +kernel
@[simp] theorem kit_ls : kitB "list" "str" = some false := by decide +kernel
@[simp] theorem kit_lt : kitB "list" "tuple" = some false := by decide +kernel
@[simp] theorem kit_ll : kitB "list" "list" = some true := by decide +kernel
@[simp] theorem kit_ld : kitB "list" "dict" = some false := by decide +kernel
@[simp] theorem kit_ni : kitB "NoneType" "int" = some false := by decide +kernel
@[simp] theorem kit_nb : kitB "NoneType" "bool" = some false := by decide +kernel
@[simp] theorem kit_ns : kitB "NoneType" "str" = some false := by decide +kernel
@[simp] theorem kit_nt : kitB "NoneType" "tuple" = some false := by decide +kernel
@[simp] theorem kit_nl : kitB "NoneType" "list" = some false := by decide +kernel
@[simp] theorem kit_nd : kitB "NoneType" "dict" = some false := by decide +kernel
/-! ### what is handed out -/
@[simp] theorem un_non {n} : P.under n .non = true := by simp only [P.under]
@[simp] theorem un_bl {n b} : P.under n (.bl b) = true := by simp only [P.under]
@[simp] theorem un_int {n i} : P.under n (.int i) = true := by simp only [P.under]
@[simp] theorem un_str {n i} : P.under n (.str i) = true := by simp only [P.under]
@[simp] theorem un_ty {n i} : P.under n (.ty i) = true := by simp only [P.under]
@[simp] theorem un_cls {n i} : P.under n (.cls i) = true := by simp only [P.under]
@[simp] theorem un_tup {n xs} : P.under n (.tup xs) = P.unders n xs := by simp only [P.under]
@[simp] theorem un_lst {n xs} : P.under n (.lst xs) = P.unders n xs := by simp only [P.under]
@[simp] theorem un_xls {n xs} : P.under n (.xls xs) = P.unders n xs := by simp only [P.under]
@[simp] theorem un_cell {n k} : P.under n (.cell k) = decide (k < n) := by simp only [P.under]
@[simp] theorem uns_nil {n} : P.unders n [] = true := by simp only [P.unders]
@[simp] theorem uns_cons {n x xs} : P.unders n (x :: xs) = (P.under n x && P.unders n xs) := by simp only [P.unders]
theorem uns_all {n} : ∀ {xs : List P}, (∀ x ∈ xs, P.under n x = true) → P.unders n xs = true
  | [], _ => uns_nil
  | x :: xs, h => by rw [uns_cons, h x List.mem_cons_self, uns_all fun y hy => h y (List.mem_cons_of_mem _ hy)]; rfl
@[simp] theorem uns_app {n} : ∀ {xs ys : List P}, P.unders n (xs ++ ys) = (P.unders n xs && P.unders n ys)
  | [], ys => by simp
  | x :: xs, ys => by simp [uns_app, Bool.and_assoc]
@[simp] theorem uns_ints {n} {l : List Int} : P.unders n (l.map P.int) = true := uns_all fun x hx => by
  obtain ⟨i, _, rfl⟩ := List.mem_map.mp hx
  exact un_int
theorem fz_under {n m k d} (h : P.under n d = true) : fz n m k d = some d := by cases k <;> simp only [fz, h, if_true]
theorem fzs_under {n m k} : ∀ {xs : List P}, P.unders n xs = true → fzs (fz n m k) xs = some xs
  | [], _ => rfl
  | x :: xs, h => by
    rw [uns_cons, Bool.and_eq_true] at h
    rw [fzs, fz_under h.1, fzs_under h.2]
theorem OkCut.app {m l : M} : OkCut m (m ++ l) := OkCut.refl.add
/-- a tree is handed out, the elder cells are as they were -/
theorem cut_tree {m l : M} {d : P} (h : P.under m.length d = true) : cutV' m d (m ++ l) = .ok d m := by
  unfold cutV'
  rw [if_pos OkCut.app, fz_under h, List.take_left]
theorem cut_tree0 {m : M} {d : P} (h : P.under m.length d = true) : cutV' m d m = .ok d m := by
  have := cut_tree (l := []) h
  rwa [List.append_nil] at this
/-- a new list is handed out -/
theorem cut_list {m l : M} {k : Nat} {xs : List P} (hk : m.length ≤ k) (hc : (m ++ l)[k]? = some (.lst xs)) (h : P.unders m.length xs = true) : cutV' m (.cell k) (m ++ l) = .ok (.lst xs) m := by
  unfold cutV'
  rw [if_pos OkCut.app, fz, if_neg (by simp; omega)]
  simp only [hc]
  rw [fzs_under h, List.take_left]
  rfl
/-- .. the elder cells may have changed -/
theorem cut_at {m m' : M} {d : P} (ok : OkCut m m') (h : P.under m.length d = true) : cutV' m d m' = .ok d (m'.take m.length) := by
  unfold cutV'
  rw [if_pos ok, fz_under h]
theorem fits_le {n : Nat} (h : n ≤ 100000) : fits n = true := decide_eq_true h
@[simp] theorem fnC_ret {n : Nat} {fb : FS} {ds : List P} {m m' : M} {d d' : P} {m2 : M} : (finish true m (.rt d m')) = cutV' m d m' := rfl
/-! ### loops without cells -/
@[simp] theorem chk_nil {m : M} : chkOk m [] = True := rfl
theorem chk0 {m : M} : chkOk m [] := trivial
theorem forG_nil {g : Tg} {body : FS} {ρ : Env} {m : M} : forG g body [] [] ρ m = .nx ρ m := by rw [forG, if_pos chk0]
theorem forG_cons {g : Tg} {body : FS} {x : P} {xs : List P} {ρ : Env} {m : M} : forG g body [] (x :: xs) ρ m = match g.put x ρ with
    | some ρ1 => match body ρ1 m with
      | .nx ρ2 m2 => forG g body [] xs ρ2 m2
      | .ct ρ2 m2 => forG g body [] xs ρ2 m2
      | .bk ρ2 m2 => .nx ρ2 m2
      | o => o
    | none => .stuck := by rw [forG, if_pos chk0] <;> rfl
theorem lcG_nil {g : Tg} {tt : FT} {te : FE} {ρ : Env} {m : M} : lcG g tt te [] ρ [] m = .ok [] m := by rw [lcG, if_pos chk0]
theorem lcG_cons {g : Tg} {tt : FT} {te : FE} {x : P} {xs : List P} {ρ : Env} {m : M} : lcG g tt te [] ρ (x :: xs) m = match g.put x ρ with
    | some ρ1 => (tt ρ1 m).calm.bind fun b m1 => if b = true then (te ρ1 m1).calm.bind fun y m2 => (lcG g tt te [] ρ xs m2).bind fun ys m3 => .ok (y :: ys) m3 else lcG g tt te [] ρ xs m1
    | none => .stuck := by rw [lcG, if_pos chk0] <;> rfl
/-- each element by its own, nothing is left out -/
theorem lcG_map {α : Type} {i : Nat} {te : FE} {ρ : Env} {m : M} {f : α → P} {h : α → P} : ∀ {xs : List α}, (∀ x ∈ xs, te (ρ.set i (some (f x))) m = .ok (h x) m) → lcG (.name i) fYes te [] ρ (xs.map f) m = .ok (xs.map h) m
  | [], _ => lcG_nil
  | x :: xs, hh => by
    rw [List.map_cons, lcG_cons]
    simp only [Tg.put, fYes, Res.calm, Res.bind, if_true]
    rw [hh x List.mem_cons_self]
    simp only [Res.calm, Res.bind]
    rw [lcG_map fun y hy => hh y (List.mem_cons_of_mem _ hy)]
    rfl
end
/-! NE -/
section
open PySem PySem.Spec PyProof.Rows
theorem nr {α : Sort _} {a b : α} (h : a = b) : a = b := h
section
variable {β δ : Type} {d : β} {m : M} {ρ : Env} {k : β → M → Res δ} {ko : β → M → Out} {c : Str} {fs : List (Str × P)}
theorem b_ok : (Res.ok d m).bind k = k d m := nr rfl
theorem b_st : (Res.stuck : Res β).bind k = .stuck := nr rfl
theorem b_ex : (Res.exc c fs m : Res β).bind k = .exc c fs m := nr rfl
theorem o_ok : (Res.ok d m).outs ρ ko = ko d m := nr rfl
theorem o_st : (Res.stuck : Res β).outs ρ ko = .stuck := nr rfl
theorem o_ex : (Res.exc c fs m : Res β).outs ρ ko = .exc c fs ρ m := nr rfl
theorem c_ok : (Res.ok d m).calm = .ok d m := nr rfl
theorem c_st : (Res.stuck : Res β).calm = .stuck := nr rfl
theorem c_ex : (Res.exc c fs m : Res β).calm = .stuck := nr rfl
end
section
variable {m : M} {a b : Int} {x y z : Str} {xs ys : List P} {n k : Nat} {c : Bool} {d e : P} {ρ : Env} {p q : Bool} {lo hi : Option Int} {t : String}
theorem lw_l : lw m (.lst xs) = some xs := nr rfl
theorem lw_c : lw m (.cell n) = match m[n]? with
  | some (.lst xs) => some xs
  | _ => none := nr rfl
theorem lv_l : lv m (.lst xs) = some xs := nr rfl
theorem lv_c : lv m (.cell n) = match m[n]? with
  | some (.lst xs) => some xs
  | _ => none := nr rfl
theorem lv_x : lv m (.xls xs) = some xs := nr rfl
theorem sv_l : sv m (.lst xs) = some xs := nr rfl
theorem sv_c : sv m (.cell n) = match m[n]? with
  | some (.lst xs) => some xs
  | _ => none := nr rfl
theorem sv_x : sv m (.xls xs) = some xs := nr rfl
theorem sv_t : sv m (.tup xs) = some xs := nr rfl
theorem lw_i : lw m (.int a) = none := nr rfl
theorem lw_s : lw m (.str x) = none := nr rfl
theorem lw_t : lw m (.tup xs) = none := nr rfl
theorem lv_s : lv m (.str x) = none := nr rfl
theorem lv_t : lv m (.tup xs) = none := nr rfl
theorem lv_i : lv m (.int a) = none := nr rfl
theorem lv_n : lv m .non = none := nr rfl
theorem add_ii : oAdd c (.int a) (.int b) m = .ok (.int (a + b)) m := nr rfl
theorem add_ss : oAdd c (.str x) (.str y) m = if fits (x.length + y.length) = true then .ok (.str (x ++ y)) m else .stuck := nr rfl
theorem add_tt : oAdd c (.tup xs) (.tup ys) m = if fits (xs.length + ys.length) = true then .ok (.tup (xs ++ ys)) m else .stuck := nr rfl
theorem add_ll : oAdd c (.lst xs) (.lst ys) m = if fits (xs.length + ys.length) = true then mkL c (xs ++ ys) m else .stuck := nr rfl
theorem add_lc : oAdd c (.lst xs) (.cell n) m = match some xs, lw m (.cell n) with
  | some xs, some ys => if fits (xs.length + ys.length) = true then mkL c (xs ++ ys) m else .stuck
  | _, _ => .stuck := nr rfl
theorem add_cl : oAdd c (.cell n) (.lst ys) m = match lw m (.cell n), some ys with
  | some xs, some ys => if fits (xs.length + ys.length) = true then mkL c (xs ++ ys) m else .stuck
  | _, _ => .stuck := nr rfl
theorem add_cc : oAdd c (.cell n) (.cell k) m = match lw m (.cell n), lw m (.cell k) with
  | some xs, some ys => if fits (xs.length + ys.length) = true then mkL c (xs ++ ys) m else .stuck
  | _, _ => .stuck := nr rfl
theorem sub_ii : oSub (.int a) (.int b) m = .ok (.int (a - b)) m := nr rfl
theorem plus_ii : oPlus (.int a) (.int b) m = .ok (.int (a + b)) m := nr rfl
theorem mul_ii : oMul c (.int a) (.int b) m = if mulOk a b = true then .ok (.int (a * b)) m else .stuck := nr rfl
theorem mul_li : oMul c (.lst [d]) (.int a) m = if decide (0 ≤ a ∧ a ≤ 100000) = true then mkL c (List.replicate a.toNat d) m else .stuck := nr rfl
theorem fdv_ii : oFdv (.int a) (.int b) m = if decide (0 < b ∧ b < 2 ^ 62) = true then .ok (.int (a / b)) m else .stuck := nr rfl
theorem mod_ii : oMod (.int a) (.int b) m = if decide (0 < b) = true then .ok (.int (a % b)) m else .stuck := nr rfl
theorem pow_ii : oPow (.int a) (.int b) m = if decide (0 ≤ b ∧ b ≤ 1000000 ∧ a.natAbs < 2 ^ 64) = true then .ok (.int (a ^ b.toNat)) m else .stuck := nr rfl
theorem neg_i : oNeg (.int a) m = .ok (.int (-a)) m := nr rfl
theorem sh_i : sh m (.int a) = .int a := nr rfl
theorem sh_s : sh m (.str x) = .str x := nr rfl
theorem sh_t : sh m (.tup xs) = .tup xs := nr rfl
theorem sh_l : sh m (.lst xs) = .lst xs := nr rfl
theorem sh_n : sh m .non = .non := nr rfl
theorem sh_b : sh m (.bl p) = .bl p := nr rfl
theorem sh_c : sh m (.cell n) = match m[n]? with
  | some (.lst xs) => .lst xs
  | _ => .cell n := nr rfl
theorem eq_nn : oEq .non .non m = .ok (.bl true) m := nr rfl
theorem ne_nn : oNe .non .non m = .ok (.bl (!true)) m := nr rfl
theorem eq_ni : oEq .non (.int b) m = .ok (.bl false) m := nr rfl
theorem ne_ni : oNe .non (.int b) m = .ok (.bl (!false)) m := nr rfl
theorem eq_in : oEq (.int a) .non m = .ok (.bl false) m := nr rfl
theorem ne_in : oNe (.int a) .non m = .ok (.bl (!false)) m := nr rfl
theorem eq_nb : oEq .non (.bl q) m = .ok (.bl false) m := nr rfl
theorem ne_nb : oNe .non (.bl q) m = .ok (.bl (!false)) m := nr rfl
theorem eq_bn : oEq (.bl p) .non m = .ok (.bl false) m := nr rfl
theorem ne_bn : oNe (.bl p) .non m = .ok (.bl (!false)) m := nr rfl
theorem eq_ns : oEq .non (.str y) m = .ok (.bl false) m := nr rfl
theorem ne_ns : oNe .non (.str y) m = .ok (.bl (!false)) m := nr rfl
theorem eq_sn : oEq (.str x) .non m = .ok (.bl false) m := nr rfl
theorem ne_sn : oNe (.str x) .non m = .ok (.bl (!false)) m := nr rfl
theorem eq_ii : oEq (.int a) (.int b) m = .ok (.bl (decide (a = b))) m := nr rfl
theorem ne_ii : oNe (.int a) (.int b) m = .ok (.bl (!decide (a = b))) m := nr rfl
theorem eq_bb : oEq (.bl p) (.bl q) m = .ok (.bl (decide (p = q))) m := nr rfl
theorem ne_bb : oNe (.bl p) (.bl q) m = .ok (.bl (!decide (p = q))) m := nr rfl
theorem eq_ss : oEq (.str x) (.str y) m = .ok (.bl (decide (x = y))) m := nr rfl
theorem ne_ss : oNe (.str x) (.str y) m = .ok (.bl (!decide (x = y))) m := nr rfl
theorem eq_is : oEq (.int a) (.str y) m = .ok (.bl false) m := nr rfl
theorem ne_is : oNe (.int a) (.str y) m = .ok (.bl (!false)) m := nr rfl
theorem eq_si : oEq (.str x) (.int b) m = .ok (.bl false) m := nr rfl
theorem ne_si : oNe (.str x) (.int b) m = .ok (.bl (!false)) m := nr rfl
theorem eq_bs : oEq (.bl p) (.str y) m = .ok (.bl false) m := nr rfl
theorem ne_bs : oNe (.bl p) (.str y) m = .ok (.bl (!false)) m := nr rfl
theorem eq_sb : oEq (.str x) (.bl q) m = .ok (.bl false) m := nr rfl
theorem ne_sb : oNe (.str x) (.bl q) m = .ok (.bl (!false)) m := nr rfl
theorem eq_tt : oEq (.tup xs) (.tup ys) m = match eqDat (.tup xs) (.tup ys) m with
  | some b => .ok (.bl b) m
  | none => .stuck := nr rfl
theorem ne_tt : oNe (.tup xs) (.tup ys) m = match eqDat (.tup xs) (.tup ys) m with
  | some b => .ok (.bl (!b)) m
  | none => .stuck := nr rfl
theorem eq_tl : oEq (.tup xs) (.lst ys) m = match eqDat (.tup xs) (.lst ys) m with
  | some b => .ok (.bl b) m
  | none => .stuck := nr rfl
theorem ne_tl : oNe (.tup xs) (.lst ys) m = match eqDat (.tup xs) (.lst ys) m with
  | some b => .ok (.bl (!b)) m
  | none => .stuck := nr rfl
theorem eq_tc : oEq (.tup xs) (.cell k) m = match eqDat (.tup xs) (.cell k) m with
  | some b => .ok (.bl b) m
  | none => .stuck := nr rfl
theorem ne_tc : oNe (.tup xs) (.cell k) m = match eqDat (.tup xs) (.cell k) m with
  | some b => .ok (.bl (!b)) m
  | none => .stuck := nr rfl
theorem eq_tn : oEq (.tup xs) .non m = match eqDat (.tup xs) .non m with
  | some b => .ok (.bl b) m
  | none => .stuck := nr rfl
theorem ne_tn : oNe (.tup xs) .non m = match eqDat (.tup xs) .non m with
  | some b => .ok (.bl (!b)) m
  | none => .stuck := nr rfl
theorem eq_lt : oEq (.lst xs) (.tup ys) m = match eqDat (.lst xs) (.tup ys) m with
  | some b => .ok (.bl b) m
  | none => .stuck := nr rfl
theorem ne_lt : oNe (.lst xs) (.tup ys) m = match eqDat (.lst xs) (.tup ys) m with
  | some b => .ok (.bl (!b)) m
  | none => .stuck := nr rfl
theorem eq_ll : oEq (.lst xs) (.lst ys) m = match eqDat (.lst xs) (.lst ys) m with
  | some b => .ok (.bl b) m
  | none => .stuck := nr rfl
theorem ne_ll : oNe (.lst xs) (.lst ys) m = match eqDat (.lst xs) (.lst ys) m with
  | some b => .ok (.bl (!b)) m
  | none => .stuck := nr rfl
theorem eq_lc : oEq (.lst xs) (.cell k) m = match eqDat (.lst xs) (.cell k) m with
  | some b => .ok (.bl b) m
  | none => .stuck := nr rfl
theorem ne_lc : oNe (.lst xs) (.cell k) m = match eqDat (.lst xs) (.cell k) m with
  | some b => .ok (.bl (!b)) m
  | none => .stuck := nr rfl
theorem eq_ln : oEq (.lst xs) .non m = match eqDat (.lst xs) .non m with
  | some b => .ok (.bl b) m
  | none => .stuck := nr rfl
theorem ne_ln : oNe (.lst xs) .non m = match eqDat (.lst xs) .non m with
  | some b => .ok (.bl (!b)) m
  | none => .stuck := nr rfl
theorem eq_ct : oEq (.cell n) (.tup ys) m = match eqDat (.cell n) (.tup ys) m with
  | some b => .ok (.bl b) m
  | none => .stuck := nr rfl
theorem ne_ct : oNe (.cell n) (.tup ys) m = match eqDat (.cell n) (.tup ys) m with
  | some b => .ok (.bl (!b)) m
  | none => .stuck := nr rfl
theorem eq_cl : oEq (.cell n) (.lst ys) m = match eqDat (.cell n) (.lst ys) m with
  | some b => .ok (.bl b) m
  | none => .stuck := nr rfl
theorem ne_cl : oNe (.cell n) (.lst ys) m = match eqDat (.cell n) (.lst ys) m with
  | some b => .ok (.bl (!b)) m
  | none => .stuck := nr rfl
theorem eq_cc : oEq (.cell n) (.cell k) m = match eqDat (.cell n) (.cell k) m with
  | some b => .ok (.bl b) m
  | none => .stuck := nr rfl
theorem ne_cc : oNe (.cell n) (.cell k) m = match eqDat (.cell n) (.cell k) m with
  | some b => .ok (.bl (!b)) m
  | none => .stuck := nr rfl
theorem eq_cn : oEq (.cell n) .non m = match eqDat (.cell n) .non m with
  | some b => .ok (.bl b) m
  | none => .stuck := nr rfl
theorem ne_cn : oNe (.cell n) .non m = match eqDat (.cell n) .non m with
  | some b => .ok (.bl (!b)) m
  | none => .stuck := nr rfl
theorem eq_nt : oEq .non (.tup ys) m = match eqDat .non (.tup ys) m with
  | some b => .ok (.bl b) m
  | none => .stuck := nr rfl
theorem ne_nt : oNe .non (.tup ys) m = match eqDat .non (.tup ys) m with
  | some b => .ok (.bl (!b)) m
  | none => .stuck := nr rfl
theorem eq_nl : oEq .non (.lst ys) m = match eqDat .non (.lst ys) m with
  | some b => .ok (.bl b) m
  | none => .stuck := nr rfl
theorem ne_nl : oNe .non (.lst ys) m = match eqDat .non (.lst ys) m with
  | some b => .ok (.bl (!b)) m
  | none => .stuck := nr rfl
theorem eq_nc : oEq .non (.cell k) m = match eqDat .non (.cell k) m with
  | some b => .ok (.bl b) m
  | none => .stuck := nr rfl
theorem ne_nc : oNe .non (.cell k) m = match eqDat .non (.cell k) m with
  | some b => .ok (.bl (!b)) m
  | none => .stuck := nr rfl
theorem isn_n : oIsN .non .non m = .ok (.bl true) m := nr rfl
theorem non_n : oNotN .non .non m = .ok (.bl (!true)) m := nr rfl
theorem isn_i : oIsN (.int a) .non m = .ok (.bl false) m := nr rfl
theorem non_i : oNotN (.int a) .non m = .ok (.bl (!false)) m := nr rfl
theorem isn_b : oIsN (.bl p) .non m = .ok (.bl false) m := nr rfl
theorem non_b : oNotN (.bl p) .non m = .ok (.bl (!false)) m := nr rfl
theorem isn_s : oIsN (.str x) .non m = .ok (.bl false) m := nr rfl
theorem non_s : oNotN (.str x) .non m = .ok (.bl (!false)) m := nr rfl
theorem isn_t : oIsN (.tup xs) .non m = .ok (.bl false) m := nr rfl
theorem non_t : oNotN (.tup xs) .non m = .ok (.bl (!false)) m := nr rfl
theorem isn_l : oIsN (.lst xs) .non m = .ok (.bl false) m := nr rfl
theorem non_l : oNotN (.lst xs) .non m = .ok (.bl (!false)) m := nr rfl
theorem isn_c : oIsN (.cell n) .non m = .ok (.bl false) m := nr rfl
theorem non_c : oNotN (.cell n) .non m = .ok (.bl (!false)) m := nr rfl
theorem isn_x : oIsN (.xls xs) .non m = .ok (.bl false) m := nr rfl
theorem non_x : oNotN (.xls xs) .non m = .ok (.bl (!false)) m := nr rfl
theorem tru_n : tru m .non = some false := nr rfl
theorem tru_b : tru m (.bl p) = some p := nr rfl
theorem tru_i : tru m (.int a) = some (a != 0) := nr rfl
theorem tru_t : tru m (.tup xs) = some (!xs.isEmpty) := nr rfl
theorem tru_l : tru m (.lst xs) = some (!xs.isEmpty) := nr rfl
theorem notv_b : oNotV (.bl p) m = .ok (.bl (!p)) m := nr rfl
theorem ix_t : oIx (.tup xs) (.int a) m = match atI xs a with
  | some z => .ok z m
  | none => .stuck := nr rfl
theorem ix_s : oIx (.str z) (.int a) m = if fits z.length = true then match atI z.cps.toList a with
  | some c => .ok (.str ⟨#[c]⟩) m
  | none => .stuck
  else .stuck := nr rfl
theorem ix_l : oIx (.lst xs) (.int a) m = match atI xs a with
  | some z => .ok z m
  | none => .stuck := nr rfl
theorem ix_x : oIx (.xls xs) (.int a) m = match atI xs a with
  | some z => .ok z m
  | none => .stuck := nr rfl
theorem ix_c : oIx (.cell n) (.int a) m = match lv m (.cell n) with
  | some xs => match atI xs a with
    | some z => .ok z m
    | none => .stuck
  | none => .stuck := nr rfl
theorem ixl_c : oIxL (.cell n) (.int a) m = match lv m (.cell n) with
  | some xs => match atI xs a with
    | some z => .ok z m
    | none => .stuck
  | none => .stuck := nr rfl
theorem sl_t : oSl c (.tup xs) lo hi m = .ok (.tup (cutL xs lo hi)) m := nr rfl
theorem sl_s : oSl c (.str z) lo hi m = if fits z.length = true then .ok (.str (cutS z lo hi)) m else .stuck := nr rfl
theorem sl_l : oSl c (.lst xs) lo hi m = mkL c (cutL xs lo hi) m := nr rfl
theorem sl_c : oSl c (.cell n) lo hi m = match lv m (.cell n) with
  | some xs => mkL c (cutL xs lo hi) m
  | none => .stuck := nr rfl
theorem rev_l : oRev c (.lst xs) m = mkL c xs.reverse m := nr rfl
theorem rev_c : oRev c (.cell n) m = match lv m (.cell n) with
  | some xs => mkL c xs.reverse m
  | none => .stuck := nr rfl
theorem len_t : oLen [.tup xs] m = .ok (.int (xs.length : Int)) m := nr rfl
theorem len_l : oLen [.lst xs] m = .ok (.int (xs.length : Int)) m := nr rfl
theorem len_x : oLen [.xls xs] m = .ok (.int (xs.length : Int)) m := nr rfl
theorem len_s : oLen [.str z] m = if fits z.length = true then .ok (.int (z.length : Int)) m else .stuck := nr rfl
theorem len_c : oLen [.cell n] m = match m[n]? with
    | some (.lst xs) => .ok (.int (xs.length : Int)) m
    | some (.dK kvs) => .ok (.int (kvs.length : Int)) m
    | _ => .stuck := nr rfl
theorem list_t : oList c [.tup xs] m = mkL c xs m := nr rfl
theorem list_l : oList c [.lst xs] m = mkL c xs m := nr rfl
theorem list_x : oList c [.xls xs] m = mkL c xs m := nr rfl
theorem list_c : oList c [.cell n] m = match lv m (.cell n) with
    | some xs => mkL c xs m
    | none => .stuck := nr rfl
theorem tuple_t : oTuple [.tup xs] m = .ok (.tup xs) m := nr rfl
theorem tuple_l : oTuple [.lst xs] m = .ok (.tup xs) m := nr rfl
theorem tuple_c : oTuple [.cell n] m = match lv m (.cell n) with
    | some xs => .ok (.tup xs) m
    | none => .stuck := nr rfl
theorem int_i : oInt [.int a] m = .ok (.int a) m := nr rfl
theorem int_b : oInt [.bl p] m = .ok (.int (if p then 1 else 0)) m := nr rfl
theorem abs_i : oAbs [.int a] m = .ok (.int (if a < 0 then -a else a)) m := nr rfl
theorem ord_s : oOrd [.str x] m = if x.length = 1 then .ok (.int (x.cps.getD 0 0 : Nat)) m else .stuck := nr rfl
theorem isi_n : oIsi [.non, .ty t] m = match kitB "NoneType" t with
      | some b => .ok (.bl b) m
      | none => .stuck := nr rfl
theorem isi_b : oIsi [(.bl p), .ty t] m = match kitB "bool" t with
      | some b => .ok (.bl b) m
      | none => .stuck := nr rfl
theorem isi_i : oIsi [(.int a), .ty t] m = match kitB "int" t with
      | some b => .ok (.bl b) m
      | none => .stuck := nr rfl
theorem isi_s : oIsi [(.str x), .ty t] m = match kitB "str" t with
      | some b => .ok (.bl b) m
      | none => .stuck := nr rfl
theorem isi_t : oIsi [(.tup xs), .ty t] m = match kitB "tuple" t with
      | some b => .ok (.bl b) m
      | none => .stuck := nr rfl
theorem isi_l : oIsi [(.lst xs), .ty t] m = match kitB "list" t with
      | some b => .ok (.bl b) m
      | none => .stuck := nr rfl
theorem isi_c : oIsi [.cell n, .ty t] m = match kindP m (.cell n) with
    | some k => match kitB k t with
      | some b => .ok (.bl b) m
      | none => .stuck
    | none => .stuck := nr rfl
theorem kindc : kindP m (.cell n) = match m[n]? with
    | some (.lst _) => some "list"
    | some (.dK _) => some "dict"
    | some (.dT _) => some "dict"
    | _ => none := nr rfl
theorem max_ii : oMax2 [.int a, .int b] m = .ok (.int (if b > a then b else a)) m := nr rfl
theorem min_ii : oMin2 [.int a, .int b] m = .ok (.int (if b < a then b else a)) m := nr rfl
theorem app_c : oAppend (.cell n) [d] m = match m[n]? with
    | some (.lst xs) => if decide (xs.length < 100000) = true then .ok .non (m.set n (.lst (xs ++ [d]))) else .stuck
    | _ => .stuck := nr rfl
theorem ext_c : oExtend (.cell n) [d] m = match m[n]?, lw m d with
    | some (.lst xs), some ys => if fits (xs.length + ys.length) = true then .ok .non (m.set n (.lst (xs ++ ys))) else .stuck
    | _, _ => .stuck := nr rfl
theorem set_c : oSet (.cell n) (.int a) d m = match m[n]? with
    | some (.lst xs) => match ixN xs.length a with
      | some j => some (m.set n (.lst (xs.set j d)))
      | none => none
    | _ => none := nr rfl
theorem join_l : oJoin (.str x) (.lst xs) m = match strsP xs with
    | some ys => if decide ((ys.map (·.length)).sum + ys.length * x.length ≤ 16777216) = true then .ok (.str (Txt.join x ys)) m else .stuck
    | none => .stuck := nr rfl
theorem sidx_ss : oSIndex (.str x) [.str y] m = match Builtin.Str.occurrences x y 0 x.length 1 with
    | i :: _ => .ok (.int (i : Nat)) m
    | [] => .stuck := nr rfl
theorem cm_ii : oCm .lt (.int a) (.int b) m = .ok (.bl (decide (a < b))) m := nr rfl
theorem cm_ile : oCm .le (.int a) (.int b) m = .ok (.bl (decide (a ≤ b))) m := nr rfl
theorem cm_igt : oCm .gt (.int a) (.int b) m = .ok (.bl (decide (b < a))) m := nr rfl
theorem cm_ige : oCm .ge (.int a) (.int b) m = .ok (.bl (decide (b ≤ a))) m := nr rfl
theorem isl_l : isL m (.lst xs) = true := nr rfl
theorem isl_c : isL m (.cell n) = (lv m (.cell n)).isSome := nr rfl
theorem isl_s : isL m (.str x) = false := nr rfl
theorem iss_s : isS m (.str x) = true := nr rfl
theorem iss_l : isS m (.lst xs) = false := nr rfl
end
section
variable {m m' : M} {d : P} {ρ : Env} {c : Str} {fs : List (Str × P)}
theorem fin_rt : finish true m (.rt d m') = cutV' m d m' := nr rfl
theorem fin_nx : finish true m (.nx ρ m') = cutV' m .non m' := nr rfl
theorem fin_st : finish true m .stuck = .stuck := nr rfl
end

/-! ### from the left, one at a time -/
def rngOk (j : Int) : Bool := decide (-(2 ^ 62) ≤ j ∧ j < 2 ^ 62)
def rngOk2 (i j : Int) : Bool := decide (-(2 ^ 62) ≤ i ∧ i < 2 ^ 62 ∧ -(2 ^ 62) ≤ j ∧ j < 2 ^ 62)
theorem rngOk_of {j : Int} (h : 0 ≤ j) (h2 : j ≤ 100000) : rngOk j = true := decide_eq_true (by omega)
theorem rngOk2_of {i j : Int} (g : 0 ≤ i) (g2 : i ≤ 100000) (h : 0 ≤ j) (h2 : j ≤ 100000) : rngOk2 i j = true := decide_eq_true (by omega)
def Out.next (o : Out) (g : FS) : Out := match o with
  | .nx ρ m => g ρ m
  | o => o
section
variable {m : M} {ρ : Env} {f g : FS} {fa fb fc fe fo fi fv : FE} {fl : FA} {ta tb : FT} {d : P} {i n : Nat} {o o2 : P → P → M → Res P} {u : P → M → Res P} {ol : List P → M → Res P} {c : Bool} {tg : Tg} {fs : List (Str × P)} {C : Str} {ff : FI} {fp fh : FO} {vs : List Nat} {ty ty2 : M → P → Bool} {om om2 : P → List P → M → Res P} {fn : FN} {ds : List P}
theorem nx_nx : (Out.nx ρ m).next g = g ρ m := nr rfl
theorem nx_rt : (Out.rt d m).next g = .rt d m := nr rfl
theorem nx_bk : (Out.bk ρ m).next g = .bk ρ m := nr rfl
theorem nx_ct : (Out.ct ρ m).next g = .ct ρ m := nr rfl
theorem nx_ex : (Out.exc C fs ρ m).next g = .exc C fs ρ m := nr rfl
theorem nx_st : (Out.stuck).next g = .stuck := nr rfl
theorem e_seq : fSeq f g ρ m = (f ρ m).next g := by unfold fSeq Out.next; cases f ρ m <;> rfl
theorem e_var : fVar i ρ m = match ρ[i]? with
  | some (some d) => .ok d m
  | _ => .stuck := nr rfl
theorem e_c : fC d ρ m = .ok d m := nr rfl
theorem e_op : fOp o fa fb ρ m = (fa ρ m).bind fun d m1 => (fb ρ m1).bind fun e m2 => o d e m2 := nr rfl
theorem e_un : fUn u fa ρ m = (fa ρ m).bind fun d m1 => u d m1 := nr rfl
theorem e_nil : fNil ρ m = .ok [] m := nr rfl
theorem e_cons : fCons fa fl ρ m = (fa ρ m).bind fun d m1 => (fl ρ m1).bind fun ds m2 => .ok (d :: ds) m2 := nr rfl
theorem e_call : fCall ol fl ρ m = (fl ρ m).bind fun ds m1 => ol ds m1 := nr rfl
theorem e_tup : fTup fl ρ m = (fl ρ m).bind fun ds m1 => oTup ds m1 := nr rfl
theorem e_lst : fLst c fl ρ m = (fl ρ m).bind fun ds m1 => oLst c ds m1 := nr rfl
theorem e_otup : oTup ds m = if fits ds.length = true then .ok (.tup ds) m else .stuck := nr rfl
theorem e_olst : oLst c ds m = if fits ds.length = true then mkL c ds m else .stuck := nr rfl
theorem e_gd : gd n fn ds m = if ds.length = n then fn ds m else .stuck := nr rfl
theorem e_asg : fAsg tg fe ρ m = (fe ρ m).outs ρ fun d m1 => match tg.put d ρ with
  | some ρ' => .nx ρ' m1
  | none => .stuck := nr rfl
theorem e_drop : fDrop fe ρ m = (fe ρ m).outs ρ fun _ m1 => .nx ρ m1 := nr rfl
theorem e_ret : fRet fe ρ m = (fe ρ m).outs ρ fun d m1 => .rt d m1 := nr rfl
theorem e_retN : fRetN ρ m = .rt .non m := nr rfl
theorem e_next : fNext ρ m = .nx ρ m := nr rfl
theorem e_brk : fBrk ρ m = .bk ρ m := nr rfl
theorem e_cont : fCont ρ m = .ct ρ m := nr rfl
theorem e_ifs : fIfS ta f g ρ m = (ta ρ m).outs ρ fun b m1 => if b = true then f ρ m1 else g ρ m1 := nr rfl
theorem e_ifT {m' : M} (h : ta ρ m = .ok true m') : fIfS ta f g ρ m = f ρ m' := by rw [e_ifs, h]; rfl
theorem e_ifF {m' : M} (h : ta ρ m = .ok false m') : fIfS ta f g ρ m = g ρ m' := by rw [e_ifs, h]; rfl
theorem e_ifB {m' : M} {b : Bool} (h : ta ρ m = .ok b m') : fIfS ta f g ρ m = if b = true then f ρ m' else g ρ m' := by rw [e_ifs, h]; rfl
theorem e_setS : fSetS fo fi fv ρ m = (fv ρ m).outs ρ fun v m1 => (fo ρ m1).outs ρ fun d m2 => (fi ρ m2).outs ρ fun i m3 => match oSet d i v m3 with
  | some m4 => .nx ρ m4
  | none => .stuck := nr rfl
theorem e_aug : fAug i o fe ρ m = match ρ[i]? with
  | some (some d) => (fe ρ m).outs ρ fun e m1 => (o d e m1).outs ρ fun z m2 => .nx (ρ.set i (some z)) m2
  | _ => .stuck := nr rfl
theorem e_augS : fAugS fo fi o fe ρ m = (fo ρ m).outs ρ fun d m1 => (fi ρ m1).outs ρ fun i m2 => (oIxL d i m2).outs ρ fun x m3 => (fe ρ m3).outs ρ fun e m4 => (o x e m4).outs ρ fun z m5 => match oSet d i z m5 with
  | some m6 => .nx ρ m6
  | none => .stuck := nr rfl
theorem e_tru : fTru fe ρ m = (fe ρ m).bind fun d m1 => match tru m1 d with
  | some b => .ok b m1
  | none => .stuck := nr rfl
theorem e_bl : fBl fe ρ m = (fe ρ m).bind fun d m1 => match d with
  | .bl b => .ok b m1
  | _ => .stuck := nr rfl
theorem e_and : fAnd ta tb ρ m = (ta ρ m).bind fun b m1 => if b = true then tb ρ m1 else .ok false m1 := nr rfl
theorem e_or : fOr ta tb ρ m = (ta ρ m).bind fun b m1 => if b = true then .ok true m1 else tb ρ m1 := nr rfl
theorem e_not : fNot ta ρ m = (ta ρ m).bind fun b m1 => .ok (!b) m1 := nr rfl
theorem e_andV : fAndV fa fb ρ m = (fa ρ m).bind fun d m1 => match tru m1 d with
  | some true => fb ρ m1
  | some false => .ok d m1
  | none => .stuck := nr rfl
theorem e_orV : fOrV fa fb ρ m = (fa ρ m).bind fun d m1 => match tru m1 d with
  | some true => .ok d m1
  | some false => fb ρ m1
  | none => .stuck := nr rfl
theorem e_notV : fNotV fa ρ m = (fa ρ m).bind fun d m1 => oNotV d m1 := nr rfl
theorem e_if : fIf ta fa fb ρ m = (ta ρ m).bind fun b m1 => if b = true then fa ρ m1 else fb ρ m1 := nr rfl
theorem e_chain : fChain o o2 fa fb fc ρ m = (fa ρ m).bind fun x m1 => (fb ρ m1).bind fun y m2 => (o x y m2).bind fun z m3 => match z with
  | .bl true => (fc ρ m3).bind fun w m4 => o2 y w m4
  | .bl false => .ok (.bl false) m3
  | _ => .stuck := nr rfl
theorem e_nop : fNoPart ρ m = .ok none m := nr rfl
theorem e_part : fPart fe ρ m = (fe ρ m).bind fun d m1 => match d with
  | .int i => .ok (some i) m1
  | _ => .stuck := nr rfl
theorem e_sl : fSl c fe fp fh ρ m = (fe ρ m).bind fun d m1 => (fp ρ m1).bind fun l m2 => (fh ρ m2).bind fun h m3 => oSl c d l h m3 := nr rfl
theorem e_iSeq : iSeq fe ρ m = (fe ρ m).bind fun d m1 => match d with
  | .tup xs => .ok ⟨xs, []⟩ m1
  | .lst xs => .ok ⟨xs, []⟩ m1
  | .xls xs => .ok ⟨xs, []⟩ m1
  | .str z => .ok ⟨z.cps.toList.map fun c => .str ⟨#[c]⟩, []⟩ m1
  | .cell n => match m1[n]? with
    | some (.lst xs) => .ok ⟨xs, [(n, xs)]⟩ m1
    | _ => .stuck
  | _ => .stuck := nr rfl
theorem e_iR1 : iR1 fl ρ m = (fl ρ m).bind fun ds m1 => match ds with
  | [.int j] => if rngOk j = true then .ok ⟨rngP 0 j.toNat, []⟩ m1 else .stuck
  | _ => .stuck := nr rfl
theorem e_iR2 : iR2 fl ρ m = (fl ρ m).bind fun ds m1 => match ds with
  | [.int i, .int j] => if rngOk2 i j = true then .ok ⟨rngP i (j - i).toNat, []⟩ m1 else .stuck
  | _ => .stuck := nr rfl
theorem e_for : fFor ff tg f ρ m = (ff ρ m).outs ρ fun s m1 => forG tg f s.chk s.items ρ m1 := nr rfl
theorem e_lc : fLc c ff tg ta fe vs ρ m = (ff ρ m).bind fun s m1 => if fits s.items.length = true then (lcG tg ta fe s.chk (wipeP ρ vs) s.items m1).bind fun ys m2 => mkL c ys m2 else .stuck := nr rfl
theorem e_yes : fYes ρ m = .ok true m := nr rfl
theorem e_mt : fMt ty om fo fl ρ m = (fo ρ m).bind fun d m1 => if ty m1 d = true then (fl ρ m1).bind fun ds m2 => om d ds m2 else .stuck := nr rfl
theorem e_mt2 : fMt2 ty ty2 om om2 fo fl ρ m = (fo ρ m).bind fun d m1 => if ty m1 d = true then (fl ρ m1).bind fun ds m2 => om d ds m2 else if ty2 m1 d = true then (fl ρ m1).bind fun ds m2 => om2 d ds m2 else .stuck := nr rfl
theorem e_join : fJoin fo fe ρ m = (fo ρ m).bind fun d m1 => if isS m1 d = true then (fe ρ m1).bind fun e m2 => oJoin d e m2 else .stuck := nr rfl
theorem e_put : (Tg.name i).put d ρ = some (ρ.set i (some d)) := nr rfl
theorem e_fits : fits n = decide (n ≤ 100000) := nr rfl
end
end
/-! G -/
section
open PySem PySem.Spec PyProof.Rows
def topS (i : Nat) : Stmt := PySem.Challenge.pw_sameanswer_k01_keys_and_ranges.main.body.getD i (.Pass ⟨0, 0, 0, 0⟩)
abbrev s_bytes_of : Stmt := topS 10
abbrev s_key_of : Stmt := topS 11
abbrev s_character_of : Stmt := topS 12
abbrev s_integer_at : Stmt := topS 13
abbrev s_text_at : Stmt := topS 14
abbrev s_values_of : Stmt := topS 15
abbrev s_prefix_range : Stmt := topS 16
abbrev s_is_in : Stmt := topS 17
abbrev s_meet : Stmt := topS 18
abbrev s_row_order : Stmt := topS 19
abbrev s_next : Stmt := topS 21
abbrev s_same : Stmt := topS 22
abbrev s_value : Stmt := topS 23
abbrev s_characters : Stmt := topS 24
abbrev s_bytes : Stmt := topS 25
abbrev s_read : Stmt := topS 26
abbrev s_order : Stmt := topS 27
abbrev s_agrees : Stmt := topS 28
abbrev s_ranges : Stmt := topS 29
abbrev s_law : Stmt := topS 30
def D_bytes_of : He.DefD := ⟨("bytes_of", none), "bytes_of", "bytes_of", defArgs s_bytes_of, defBody s_bytes_of, defScope s_bytes_of, [], []⟩
def D_key_of : He.DefD := ⟨("key_of", none), "key_of", "key_of", defArgs s_key_of, defBody s_key_of, defScope s_key_of, [], []⟩
def D_character_of : He.DefD := ⟨("character_of", none), "character_of", "character_of", defArgs s_character_of, defBody s_character_of, defScope s_character_of, [], []⟩
def D_integer_at : He.DefD := ⟨("integer_at", none), "integer_at", "integer_at", defArgs s_integer_at, defBody s_integer_at, defScope s_integer_at, [], []⟩
def D_text_at : He.DefD := ⟨("text_at", none), "text_at", "text_at", defArgs s_text_at, defBody s_text_at, defScope s_text_at, [], []⟩
def D_values_of : He.DefD := ⟨("values_of", none), "values_of", "values_of", defArgs s_values_of, defBody s_values_of, defScope s_values_of, [], []⟩
def D_prefix_range : He.DefD := ⟨("prefix_range", none), "prefix_range", "prefix_range", defArgs s_prefix_range, defBody s_prefix_range, defScope s_prefix_range, [], []⟩
def D_is_in : He.DefD := ⟨("is_in", none), "is_in", "is_in", defArgs s_is_in, defBody s_is_in, defScope s_is_in, [], []⟩
def D_meet : He.DefD := ⟨("meet", none), "meet", "meet", defArgs s_meet, defBody s_meet, defScope s_meet, [], []⟩
def D_row_order : He.DefD := ⟨("row_order", none), "row_order", "row_order", defArgs s_row_order, defBody s_row_order, defScope s_row_order, [], []⟩
def D_next : He.DefD := ⟨("_law_next", none), "_law_next", "_law_next", defArgs s_next, defBody s_next, defScope s_next, [], []⟩
def D_same : He.DefD := ⟨("_law_same", none), "_law_same", "_law_same", defArgs s_same, defBody s_same, defScope s_same, [], []⟩
def D_value : He.DefD := ⟨("_law_value", none), "_law_value", "_law_value", defArgs s_value, defBody s_value, defScope s_value, [], []⟩
def D_characters : He.DefD := ⟨("_law_characters", none), "_law_characters", "_law_characters", defArgs s_characters, defBody s_characters, defScope s_characters, [], []⟩
def D_bytes : He.DefD := ⟨("_law_bytes", none), "_law_bytes", "_law_bytes", defArgs s_bytes, defBody s_bytes, defScope s_bytes, [], []⟩
def D_read : He.DefD := ⟨("_law_read", none), "_law_read", "_law_read", defArgs s_read, defBody s_read, defScope s_read, [], []⟩
def D_order : He.DefD := ⟨("_law_order", none), "_law_order", "_law_order", defArgs s_order, defBody s_order, defScope s_order, [], []⟩
def D_agrees : He.DefD := ⟨("_law_agrees", none), "_law_agrees", "_law_agrees", defArgs s_agrees, defBody s_agrees, defScope s_agrees, [], []⟩
def D_ranges : He.DefD := ⟨("_law_ranges", none), "_law_ranges", "_law_ranges", defArgs s_ranges, defBody s_ranges, defScope s_ranges, [], []⟩
def D_law : He.DefD := ⟨("law", none), "law", "law", defArgs s_law, defBody s_law, defScope s_law, [], []⟩
def fnL : List He.DefD := [D_bytes_of, D_key_of, D_character_of, D_integer_at, D_text_at, D_values_of, D_prefix_range, D_is_in, D_meet, D_row_order, D_next, D_same, D_value, D_characters, D_bytes, D_read, D_order, D_agrees, D_ranges, D_law]
def faL : List He.Fa := [.glo "bytes_of", .glo "key_of", .glo "character_of", .glo "integer_at", .glo "text_at", .glo "values_of", .glo "prefix_range", .glo "is_in", .glo "meet", .glo "row_order", .glo "_law_next", .glo "_law_same", .glo "_law_value", .glo "_law_characters", .glo "_law_bytes", .glo "_law_read", .glo "_law_order", .glo "_law_agrees", .glo "_law_ranges", .glo "law", .int "INTEGER" 1, .int "TEXT" 2, .int "BEHIND" 3, .int "NUMBER_BYTES" 5, .int "SHIFT" 549755813888, .int "BOUND" 1000000000, .int "MOST_CHARACTERS" 6, .str "BEFORE_PERCENT" " !\"#$", .str "AFTER_PERCENT" "&'()*+,-./0123456789:;<=>?@ABCDEFGHIJKLMNOPQRSTUVWXYZ[\\]^_`abcdefghijklmnopqrstuvwxyz{|}~", .free "abs", .free "bool", .free "int", .free "isinstance", .free "len", .free "list", .free "max", .free "min", .free "ord", .free "range", .free "str", .free "tuple"]
structure Tx (K : PySem.W.Frag) (mg : Str → Option Value) : Prop where
  c : He.SaysD faL fnL K
  ns : ∃ h : Heap, K.In h ∧ h.Ns mainGlobals mg
section
variable {K : PySem.W.Frag} {mg : Str → Option Value}
theorem Tx.g_bytes_of (T : Tx K mg) : mg "bytes_of" = some (.ref (He.ga K "bytes_of")) := by
  obtain ⟨h, X, G⟩ := T.ns
  exact He.glo_ok X G (T.c.fact 0 (f := .glo "bytes_of") rfl)
theorem Tx.g_key_of (T : Tx K mg) : mg "key_of" = some (.ref (He.ga K "key_of")) := by
  obtain ⟨h, X, G⟩ := T.ns
  exact He.glo_ok X G (T.c.fact 1 (f := .glo "key_of") rfl)
theorem Tx.g_character_of (T : Tx K mg) : mg "character_of" = some (.ref (He.ga K "character_of")) := by
  obtain ⟨h, X, G⟩ := T.ns
  exact He.glo_ok X G (T.c.fact 2 (f := .glo "character_of") rfl)
theorem Tx.g_integer_at (T : Tx K mg) : mg "integer_at" = some (.ref (He.ga K "integer_at")) := by
  obtain ⟨h, X, G⟩ := T.ns
  exact He.glo_ok X G (T.c.fact 3 (f := .glo "integer_at") rfl)
theorem Tx.g_text_at (T : Tx K mg) : mg "text_at" = some (.ref (He.ga K "text_at")) := by
  obtain ⟨h, X, G⟩ := T.ns
  exact He.glo_ok X G (T.c.fact 4 (f := .glo "text_at") rfl)
theorem Tx.g_values_of (T : Tx K mg) : mg "values_of" = some (.ref (He.ga K "values_of")) := by
  obtain ⟨h, X, G⟩ := T.ns
  exact He.glo_ok X G (T.c.fact 5 (f := .glo "values_of") rfl)
theorem Tx.g_prefix_range (T : Tx K mg) : mg "prefix_range" = some (.ref (He.ga K "prefix_range")) := by
  obtain ⟨h, X, G⟩ := T.ns
  exact He.glo_ok X G (T.c.fact 6 (f := .glo "prefix_range") rfl)
theorem Tx.g_is_in (T : Tx K mg) : mg "is_in" = some (.ref (He.ga K "is_in")) := by
  obtain ⟨h, X, G⟩ := T.ns
  exact He.glo_ok X G (T.c.fact 7 (f := .glo "is_in") rfl)
theorem Tx.g_meet (T : Tx K mg) : mg "meet" = some (.ref (He.ga K "meet")) := by
  obtain ⟨h, X, G⟩ := T.ns
  exact He.glo_ok X G (T.c.fact 8 (f := .glo "meet") rfl)
theorem Tx.g_row_order (T : Tx K mg) : mg "row_order" = some (.ref (He.ga K "row_order")) := by
  obtain ⟨h, X, G⟩ := T.ns
  exact He.glo_ok X G (T.c.fact 9 (f := .glo "row_order") rfl)
theorem Tx.g_next (T : Tx K mg) : mg "_law_next" = some (.ref (He.ga K "_law_next")) := by
  obtain ⟨h, X, G⟩ := T.ns
  exact He.glo_ok X G (T.c.fact 10 (f := .glo "_law_next") rfl)
theorem Tx.g_same (T : Tx K mg) : mg "_law_same" = some (.ref (He.ga K "_law_same")) := by
  obtain ⟨h, X, G⟩ := T.ns
  exact He.glo_ok X G (T.c.fact 11 (f := .glo "_law_same") rfl)
theorem Tx.g_value (T : Tx K mg) : mg "_law_value" = some (.ref (He.ga K "_law_value")) := by
  obtain ⟨h, X, G⟩ := T.ns
  exact He.glo_ok X G (T.c.fact 12 (f := .glo "_law_value") rfl)
theorem Tx.g_characters (T : Tx K mg) : mg "_law_characters" = some (.ref (He.ga K "_law_characters")) := by
  obtain ⟨h, X, G⟩ := T.ns
  exact He.glo_ok X G (T.c.fact 13 (f := .glo "_law_characters") rfl)
theorem Tx.g_bytes (T : Tx K mg) : mg "_law_bytes" = some (.ref (He.ga K "_law_bytes")) := by
  obtain ⟨h, X, G⟩ := T.ns
  exact He.glo_ok X G (T.c.fact 14 (f := .glo "_law_bytes") rfl)
theorem Tx.g_read (T : Tx K mg) : mg "_law_read" = some (.ref (He.ga K "_law_read")) := by
  obtain ⟨h, X, G⟩ := T.ns
  exact He.glo_ok X G (T.c.fact 15 (f := .glo "_law_read") rfl)
theorem Tx.g_order (T : Tx K mg) : mg "_law_order" = some (.ref (He.ga K "_law_order")) := by
  obtain ⟨h, X, G⟩ := T.ns
  exact He.glo_ok X G (T.c.fact 16 (f := .glo "_law_order") rfl)
theorem Tx.g_agrees (T : Tx K mg) : mg "_law_agrees" = some (.ref (He.ga K "_law_agrees")) := by
  obtain ⟨h, X, G⟩ := T.ns
  exact He.glo_ok X G (T.c.fact 17 (f := .glo "_law_agrees") rfl)
theorem Tx.g_ranges (T : Tx K mg) : mg "_law_ranges" = some (.ref (He.ga K "_law_ranges")) := by
  obtain ⟨h, X, G⟩ := T.ns
  exact He.glo_ok X G (T.c.fact 18 (f := .glo "_law_ranges") rfl)
theorem Tx.g_law (T : Tx K mg) : mg "law" = some (.ref (He.ga K "law")) := by
  obtain ⟨h, X, G⟩ := T.ns
  exact He.glo_ok X G (T.c.fact 19 (f := .glo "law") rfl)
theorem Tx.i_INTEGER (T : Tx K mg) : ∃ t, mg "INTEGER" = some (.int 1 t) := by
  obtain ⟨h, X, G⟩ := T.ns
  exact He.int_ok X G (T.c.fact 20 (f := .int "INTEGER" 1) rfl)
theorem Tx.i_TEXT (T : Tx K mg) : ∃ t, mg "TEXT" = some (.int 2 t) := by
  obtain ⟨h, X, G⟩ := T.ns
  exact He.int_ok X G (T.c.fact 21 (f := .int "TEXT" 2) rfl)
theorem Tx.i_BEHIND (T : Tx K mg) : ∃ t, mg "BEHIND" = some (.int 3 t) := by
  obtain ⟨h, X, G⟩ := T.ns
  exact He.int_ok X G (T.c.fact 22 (f := .int "BEHIND" 3) rfl)
theorem Tx.i_NUMBER_BYTES (T : Tx K mg) : ∃ t, mg "NUMBER_BYTES" = some (.int 5 t) := by
  obtain ⟨h, X, G⟩ := T.ns
  exact He.int_ok X G (T.c.fact 23 (f := .int "NUMBER_BYTES" 5) rfl)
theorem Tx.i_SHIFT (T : Tx K mg) : ∃ t, mg "SHIFT" = some (.int 549755813888 t) := by
  obtain ⟨h, X, G⟩ := T.ns
  exact He.int_ok X G (T.c.fact 24 (f := .int "SHIFT" 549755813888) rfl)
theorem Tx.i_BOUND (T : Tx K mg) : ∃ t, mg "BOUND" = some (.int 1000000000 t) := by
  obtain ⟨h, X, G⟩ := T.ns
  exact He.int_ok X G (T.c.fact 25 (f := .int "BOUND" 1000000000) rfl)
theorem Tx.i_MOST_CHARACTERS (T : Tx K mg) : ∃ t, mg "MOST_CHARACTERS" = some (.int 6 t) := by
  obtain ⟨h, X, G⟩ := T.ns
  exact He.int_ok X G (T.c.fact 26 (f := .int "MOST_CHARACTERS" 6) rfl)
theorem Tx.i_BEFORE_PERCENT (T : Tx K mg) : ∃ t, mg "BEFORE_PERCENT" = some (.str (" !\"#$" : Str) t) := by
  obtain ⟨h, X, G⟩ := T.ns
  exact He.str_ok X G (T.c.fact 27 (f := .str "BEFORE_PERCENT" " !\"#$") rfl)
theorem Tx.i_AFTER_PERCENT (T : Tx K mg) : ∃ t, mg "AFTER_PERCENT" = some (.str ("&'()*+,-./0123456789:;<=>?@ABCDEFGHIJKLMNOPQRSTUVWXYZ[\\]^_`abcdefghijklmnopqrstuvwxyz{|}~" : Str) t) := by
  obtain ⟨h, X, G⟩ := T.ns
  exact He.str_ok X G (T.c.fact 28 (f := .str "AFTER_PERCENT" "&'()*+,-./0123456789:;<=>?@ABCDEFGHIJKLMNOPQRSTUVWXYZ[\\]^_`abcdefghijklmnopqrstuvwxyz{|}~") rfl)
theorem Tx.f_abs (T : Tx K mg) : mg "abs" = none := by
  obtain ⟨h, X, G⟩ := T.ns
  exact He.free_ok X G (T.c.fact 29 (f := .free "abs") rfl)
theorem Tx.f_bool (T : Tx K mg) : mg "bool" = none := by
  obtain ⟨h, X, G⟩ := T.ns
  exact He.free_ok X G (T.c.fact 30 (f := .free "bool") rfl)
theorem Tx.f_int (T : Tx K mg) : mg "int" = none := by
  obtain ⟨h, X, G⟩ := T.ns
  exact He.free_ok X G (T.c.fact 31 (f := .free "int") rfl)
theorem Tx.f_isinstance (T : Tx K mg) : mg "isinstance" = none := by
  obtain ⟨h, X, G⟩ := T.ns
  exact He.free_ok X G (T.c.fact 32 (f := .free "isinstance") rfl)
theorem Tx.f_len (T : Tx K mg) : mg "len" = none := by
  obtain ⟨h, X, G⟩ := T.ns
  exact He.free_ok X G (T.c.fact 33 (f := .free "len") rfl)
theorem Tx.f_list (T : Tx K mg) : mg "list" = none := by
  obtain ⟨h, X, G⟩ := T.ns
  exact He.free_ok X G (T.c.fact 34 (f := .free "list") rfl)
theorem Tx.f_max (T : Tx K mg) : mg "max" = none := by
  obtain ⟨h, X, G⟩ := T.ns
  exact He.free_ok X G (T.c.fact 35 (f := .free "max") rfl)
theorem Tx.f_min (T : Tx K mg) : mg "min" = none := by
  obtain ⟨h, X, G⟩ := T.ns
  exact He.free_ok X G (T.c.fact 36 (f := .free "min") rfl)
theorem Tx.f_ord (T : Tx K mg) : mg "ord" = none := by
  obtain ⟨h, X, G⟩ := T.ns
  exact He.free_ok X G (T.c.fact 37 (f := .free "ord") rfl)
theorem Tx.f_range (T : Tx K mg) : mg "range" = none := by
  obtain ⟨h, X, G⟩ := T.ns
  exact He.free_ok X G (T.c.fact 38 (f := .free "range") rfl)
theorem Tx.f_str (T : Tx K mg) : mg "str" = none := by
  obtain ⟨h, X, G⟩ := T.ns
  exact He.free_ok X G (T.c.fact 39 (f := .free "str") rfl)
theorem Tx.f_tuple (T : Tx K mg) : mg "tuple" = none := by
  obtain ⟨h, X, G⟩ := T.ns
  exact He.free_ok X G (T.c.fact 40 (f := .free "tuple") rfl)
end
theorem sc_bytes_of : FnScope ["value", "number", "data", "_", "character"] ["value"] (defScope s_bytes_of) := ⟨rfl, rfl, rfl, by decide +kernel, rfl, by decide +kernel, by decide +kernel⟩
theorem sc_key_of : FnScope ["values", "key", "value"] ["values"] (defScope s_key_of) := ⟨rfl, rfl, rfl, by decide +kernel, rfl, by decide +kernel, by decide +kernel⟩
theorem sc_character_of : FnScope ["code"] ["code"] (defScope s_character_of) := ⟨rfl, rfl, rfl, by decide +kernel, rfl, by decide +kernel, by decide +kernel⟩
theorem sc_integer_at : FnScope ["key", "at", "data", "number", "byte"] ["key", "at"] (defScope s_integer_at) := ⟨rfl, rfl, rfl, by decide +kernel, rfl, by decide +kernel, by decide +kernel⟩
theorem sc_text_at : FnScope ["key", "at", "text", "code", "character"] ["key", "at"] (defScope s_text_at) := ⟨rfl, rfl, rfl, by decide +kernel, rfl, by decide +kernel, by decide +kernel⟩
theorem sc_values_of : FnScope ["key", "found", "at", "value"] ["key"] (defScope s_values_of) := ⟨rfl, rfl, rfl, by decide +kernel, rfl, by decide +kernel, by decide +kernel⟩
theorem sc_prefix_range : FnScope ["key"] ["key"] (defScope s_prefix_range) := ⟨rfl, rfl, rfl, by decide +kernel, rfl, by decide +kernel, by decide +kernel⟩
theorem sc_is_in : FnScope ["key", "span", "low", "high"] ["key", "span"] (defScope s_is_in) := ⟨rfl, rfl, rfl, by decide +kernel, rfl, by decide +kernel, by decide +kernel⟩
theorem sc_meet : FnScope ["first", "second"] ["first", "second"] (defScope s_meet) := ⟨rfl, rfl, rfl, by decide +kernel, rfl, by decide +kernel, by decide +kernel⟩
theorem sc_row_order : FnScope ["values", "value"] ["values"] (defScope s_row_order) := ⟨rfl, rfl, rfl, by decide +kernel, rfl, by decide +kernel, by decide +kernel⟩
theorem sc_next : FnScope ["_law_state", "_law_limit", "_law_cell", "_law_value_here"] ["_law_state", "_law_limit"] (defScope s_next) := ⟨rfl, rfl, rfl, by decide +kernel, rfl, by decide +kernel, by decide +kernel⟩
theorem sc_same : FnScope ["_law_actual", "_law_expected", "_law_k"] ["_law_actual", "_law_expected"] (defScope s_same) := ⟨rfl, rfl, rfl, by decide +kernel, rfl, by decide +kernel, by decide +kernel⟩
theorem sc_value : FnScope ["_law_state", "_law_pick", "_law_start", "_law_step", "_law_j"] ["_law_state"] (defScope s_value) := ⟨rfl, rfl, rfl, by decide +kernel, rfl, by decide +kernel, by decide +kernel⟩
theorem sc_characters : FnScope [] [] (defScope s_characters) := ⟨rfl, rfl, rfl, by decide +kernel, rfl, by decide +kernel, by decide +kernel⟩
theorem sc_bytes : FnScope ["_law_values", "_law_data", "_law_value_here", "_law_chars", "_law_number", "_law_five", "_law_k", "_law_each"] ["_law_values"] (defScope s_bytes) := ⟨rfl, rfl, rfl, by decide +kernel, rfl, by decide +kernel, by decide +kernel⟩
theorem sc_read : FnScope ["_law_key", "_law_values", "_law_at", "_law_turn", "_law_number", "_law_byte", "_law_codes", "_law_code"] ["_law_key"] (defScope s_read) := ⟨rfl, rfl, rfl, by decide +kernel, rfl, by decide +kernel, by decide +kernel⟩
theorem sc_order : FnScope ["_law_first", "_law_second", "_law_k", "_law_kinds"] ["_law_first", "_law_second"] (defScope s_order) := ⟨rfl, rfl, rfl, by decide +kernel, rfl, by decide +kernel, by decide +kernel⟩
theorem sc_agrees : FnScope ["_law_left", "_law_right", "_law_order_here"] ["_law_left", "_law_right", "_law_order_here"] (defScope s_agrees) := ⟨rfl, rfl, rfl, by decide +kernel, rfl, by decide +kernel, by decide +kernel⟩
theorem sc_ranges : FnScope ["_law_keys", "_law_strange", "_law_spans", "_law_low", "_law_first", "_law_second", "_law_high", "_law_key"] ["_law_keys", "_law_strange"] (defScope s_ranges) := ⟨rfl, rfl, rfl, by decide +kernel, rfl, by decide +kernel, by decide +kernel⟩
theorem sc_law : FnScope ["_law_script", "_law_state", "_law_k", "_law_j", "_law_rows", "_law_keys", "_law_order_here", "_law_strange", "_law_key", "_law_at", "_law_byte", "_law_drawn", "_law_other", "_law_row"] ["_law_script"] (defScope s_law) := ⟨rfl, rfl, rfl, by decide +kernel, rfl, by decide +kernel, by decide +kernel⟩
end
/-! Fn -/
section
open PySem PySem.Spec PyProof.Rows
noncomputable def fb_bytes_of : FS :=
  (fSeq (fIfS (fTru (fCall oIsi (fCons (fVar 0) (fCons (fC (.ty "str")) fNil)))) (fRet (fOp (oAdd false) (fOp (oAdd false) (fLst false (fCons (fC (.int 2)) fNil)) (fLc false (iSeq (fVar 0)) (.name 4) fYes (fCall oOrd (fCons (fVar 4) fNil)) [4])) (fLst false (fCons (fC (.int 0)) fNil)))) fNext)
  (fSeq (fAsg (.name 1) (fOp (oAdd false) (fVar 0) (fC (.int 549755813888))))
  (fSeq (fAsg (.name 2) (fLst true fNil))
  (fSeq (fFor (iR1 (fCons (fC (.int 5)) fNil)) (.name 3) (fSeq (fDrop (fMt isL oAppend (fVar 2) (fCons (fOp oMod (fVar 1) (fC (.int 256))) fNil)))
  (fAsg (.name 1) (fOp oFdv (fVar 1) (fC (.int 256))))))
  (fRet (fOp (oAdd false) (fLst false (fCons (fC (.int 1)) fNil)) (fUn (oRev false) (fVar 2))))))))
noncomputable def f_bytes_of : FN := fnC true 5 fb_bytes_of

noncomputable def fb_key_of : FS :=
  (fSeq (fAsg (.name 1) (fLst true fNil))
  (fSeq (fFor (iSeq (fVar 0)) (.name 2) (fDrop (fMt isL oExtend (fVar 1) (fCons (fCall (gd 1 f_bytes_of) (fCons (fVar 2) fNil)) fNil))))
  (fRet (fCall oTuple (fCons (fVar 1) fNil)))))
noncomputable def f_key_of : FN := fnC true 3 fb_key_of

noncomputable def fb_character_of : FS :=
  (fSeq (fIfS (fBl (fChain (oCm .le) (oCm .lt) (fC (.int 32)) (fVar 0) (fC (.int 37)))) (fRet (fOp oIx (fC (.str (" !\"#$" : Str))) (fOp oSub (fVar 0) (fC (.int 32))))) fNext)
  (fSeq (fIfS (fBl (fChain (oCm .lt) (oCm .lt) (fC (.int 37)) (fVar 0) (fC (.int 127)))) (fRet (fOp oIx (fC (.str ("&'()*+,-./0123456789:;<=>?@ABCDEFGHIJKLMNOPQRSTUVWXYZ[\\]^_`abcdefghijklmnopqrstuvwxyz{|}~" : Str))) (fOp oSub (fVar 0) (fC (.int 38))))) fNext)
  (fRet (fC .non))))
noncomputable def f_character_of : FN := fnC true 1 fb_character_of

noncomputable def fb_integer_at : FS :=
  (fSeq (fAsg (.name 2) (fSl false (fVar 0) (fPart (fVar 1)) (fPart (fOp (oAdd false) (fVar 1) (fC (.int 5))))))
  (fSeq (fIfS (fBl (fOp (oCm .lt) (fCall oLen (fCons (fVar 2) fNil)) (fC (.int 5)))) (fRet (fC .non)) fNext)
  (fSeq (fAsg (.name 3) (fC (.int 0)))
  (fSeq (fFor (iSeq (fVar 2)) (.name 4) (fAsg (.name 3) (fOp (oAdd false) (fOp (oMul false) (fC (.int 256)) (fVar 3)) (fVar 4))))
  (fSeq (fIfS (fNot (fBl (fChain (oCm .le) (oCm .le) (fUn oNeg (fC (.int 1000000000))) (fOp oSub (fVar 3) (fC (.int 549755813888))) (fC (.int 1000000000))))) (fRet (fC .non)) fNext)
  (fRet (fOp oSub (fVar 3) (fC (.int 549755813888)))))))))
noncomputable def f_integer_at : FN := fnC true 5 fb_integer_at

noncomputable def fb_text_at : FS :=
  (fSeq (fAsg (.name 2) (fC (.str ("" : Str))))
  (fSeq (fFor (iSeq (fSl false (fVar 0) (fPart (fVar 1)) (fPart (fOp (oAdd false) (fOp (oAdd false) (fVar 1) (fC (.int 6))) (fC (.int 1)))))) (.name 3) (fSeq (fIfS (fBl (fOp oEq (fVar 3) (fC (.int 0)))) (fRet (fVar 2)) fNext)
  (fSeq (fAsg (.name 4) (fCall (gd 1 f_character_of) (fCons (fVar 3) fNil)))
  (fSeq (fIfS (fBl (fOp oIsN (fVar 4) (fC .non))) (fRet (fC .non)) fNext)
  (fAsg (.name 2) (fOp (oAdd false) (fVar 2) (fVar 4)))))))
  (fRet (fC .non))))
noncomputable def f_text_at : FN := fnC true 5 fb_text_at

noncomputable def fb_values_of : FS :=
  (fSeq (fAsg (.name 1) (fLst true fNil))
  (fSeq (fAsg (.name 2) (fC (.int 0)))
  (fSeq (fWhile (fBl (fOp (oCm .lt) (fVar 2) (fCall oLen (fCons (fVar 0) fNil)))) (fSeq (fIfS (fBl (fOp oEq (fOp oIx (fVar 0) (fVar 2)) (fC (.int 1)))) (fAsg (.name 3) (fCall (gd 2 f_integer_at) (fCons (fVar 0) (fCons (fOp (oAdd false) (fVar 2) (fC (.int 1))) fNil)))) (fIfS (fBl (fOp oEq (fOp oIx (fVar 0) (fVar 2)) (fC (.int 2)))) (fAsg (.name 3) (fCall (gd 2 f_text_at) (fCons (fVar 0) (fCons (fOp (oAdd false) (fVar 2) (fC (.int 1))) fNil)))) (fRet (fC .non))))
  (fSeq (fIfS (fBl (fOp oIsN (fVar 3) (fC .non))) (fRet (fC .non)) fNext)
  (fSeq (fDrop (fMt isL oAppend (fVar 1) (fCons (fVar 3) fNil)))
  (fAug 2 oPlus (fCall oLen (fCons (fCall (gd 1 f_bytes_of) (fCons (fVar 3) fNil)) fNil)))))))
  (fRet (fCall oTuple (fCons (fVar 1) fNil))))))
noncomputable def f_values_of : FN := fnC true 4 fb_values_of

noncomputable def fb_prefix_range : FS :=
  (fRet (fTup (fCons (fVar 0) (fCons (fOp (oAdd false) (fVar 0) (fTup (fCons (fC (.int 3)) fNil))) fNil))))
noncomputable def f_prefix_range : FN := fnC true 1 fb_prefix_range

noncomputable def fb_is_in : FS :=
  (fSeq (fAsg (.tup (.cons (.name 2) (.cons (.name 3) TgL.nil))) (fVar 1))
  (fRet (fChain (oCm .le) (oCm .lt) (fVar 2) (fVar 0) (fVar 3))))
noncomputable def f_is_in : FN := fnC true 4 fb_is_in

noncomputable def fb_meet : FS :=
  (fRet (fOp (oCm .lt) (fCall oMax2 (fCons (fOp oIx (fVar 0) (fC (.int 0))) (fCons (fOp oIx (fVar 1) (fC (.int 0))) fNil))) (fCall oMin2 (fCons (fOp oIx (fVar 0) (fC (.int 1))) (fCons (fOp oIx (fVar 1) (fC (.int 1))) fNil)))))
noncomputable def f_meet : FN := fnC true 2 fb_meet

noncomputable def fb_row_order : FS :=
  (fRet (fCall oTuple (fCons (fLc false (iSeq (fVar 0)) (.name 1) fYes (fTup (fCons (fCall oInt (fCons (fCall oIsi (fCons (fVar 1) (fCons (fC (.ty "str")) fNil))) fNil)) (fCons (fVar 1) fNil))) [1]) fNil)))
noncomputable def f_row_order : FN := fnC true 2 fb_row_order

noncomputable def fb_next : FS :=
  (fSeq (fIfS (fAnd (fBl (fOp oEq (fOp oIx (fVar 0) (fC (.int 2))) (fC (.int 0)))) (fBl (fOp (oCm .lt) (fOp oIx (fVar 0) (fC (.int 1))) (fCall oLen (fCons (fOp oIx (fVar 0) (fC (.int 0))) fNil))))) (fSeq (fAsg (.name 2) (fOp oIx (fOp oIx (fVar 0) (fC (.int 0))) (fOp oIx (fVar 0) (fC (.int 1)))))
  (fSeq (fAugS (fVar 0) (fC (.int 1)) oPlus (fC (.int 1)))
  (fIfS (fBl (fOp (oCm .ge) (fVar 2) (fOp oPow (fC (.int 10)) (fC (.int 18))))) (fSetS (fVar 0) (fC (.int 2)) (fVar 2)) (fSetS (fVar 0) (fC (.int 3)) (fOp oMod (fCall oInt (fCons (fOp (oAdd false) (fOp (oAdd false) (fOp (oMul false) (fOp oIx (fVar 0) (fC (.int 3))) (fC (.int 48271))) (fOp oMod (fCall oInt (fCons (fVar 2) fNil)) (fC (.int 2147483647)))) (fC (.int 7))) fNil)) (fC (.int 2147483647))))))) fNext)
  (fSeq (fIfS (fBl (fOp (oCm .gt) (fOp oIx (fVar 0) (fC (.int 2))) (fC (.int 0)))) (fSeq (fAsg (.name 3) (fOp oMod (fCall oInt (fCons (fOp oIx (fVar 0) (fC (.int 2))) fNil)) (fVar 1)))
  (fSeq (fSetS (fVar 0) (fC (.int 2)) (fOp oFdv (fOp oIx (fVar 0) (fC (.int 2))) (fVar 1)))
  (fRet (fVar 3)))) fNext)
  (fSeq (fSetS (fVar 0) (fC (.int 3)) (fOp oMod (fCall oInt (fCons (fOp (oAdd false) (fOp (oMul false) (fOp oIx (fVar 0) (fC (.int 3))) (fC (.int 69621))) (fC (.int 12345))) fNil)) (fC (.int 2147483647))))
  (fRet (fOp oMod (fCall oInt (fCons (fOp oFdv (fOp oIx (fVar 0) (fC (.int 3))) (fC (.int 7))) fNil)) (fVar 1))))))
noncomputable def f_next : FN := fnC true 4 fb_next

noncomputable def fb_same (f_same : Nat → FN) (n : Nat) : FS :=
  (fSeq (fIfS (fBl (fOp oIsN (fVar 1) (fC .non))) (fRet (fOp oIsN (fVar 0) (fC .non))) fNext)
  (fSeq (fIfS (fTru (fCall oIsi (fCons (fVar 1) (fCons (fC (.ty "bool")) fNil)))) (fRet (fAndV (fCall oIsi (fCons (fVar 0) (fCons (fC (.ty "bool")) fNil))) (fOp oEq (fVar 0) (fVar 1)))) fNext)
  (fSeq (fIfS (fTru (fCall oIsi (fCons (fVar 1) (fCons (fC (.ty "int")) fNil)))) (fRet (fAndV (fCall oIsi (fCons (fVar 0) (fCons (fC (.ty "int")) fNil))) (fAndV (fNotV (fCall oIsi (fCons (fVar 0) (fCons (fC (.ty "bool")) fNil)))) (fOp oEq (fVar 0) (fVar 1))))) fNext)
  (fSeq (fIfS (fTru (fCall oIsi (fCons (fVar 1) (fCons (fC (.ty "str")) fNil)))) (fRet (fAndV (fCall oIsi (fCons (fVar 0) (fCons (fC (.ty "str")) fNil))) (fOp oEq (fVar 0) (fVar 1)))) fNext)
  (fSeq (fIfS (fAnd (fTru (fCall oIsi (fCons (fVar 1) (fCons (fC (.ty "tuple")) fNil)))) (fNot (fTru (fCall oIsi (fCons (fVar 0) (fCons (fC (.ty "tuple")) fNil)))))) (fRet (fC (.bl false))) fNext)
  (fSeq (fIfS (fAnd (fTru (fCall oIsi (fCons (fVar 1) (fCons (fC (.ty "list")) fNil)))) (fNot (fTru (fCall oIsi (fCons (fVar 0) (fCons (fC (.ty "list")) fNil)))))) (fRet (fC (.bl false))) fNext)
  (fSeq (fIfS (fBl (fOp oNe (fCall oLen (fCons (fVar 0) fNil)) (fCall oLen (fCons (fVar 1) fNil)))) (fRet (fC (.bl false))) fNext)
  (fSeq (fFor (iR1 (fCons (fCall oLen (fCons (fVar 1) fNil)) fNil)) (.name 2) (fIfS (fNot (fTru (fCall (gd 2 (f_same n)) (fCons (fOp oIx (fVar 0) (fVar 2)) (fCons (fOp oIx (fVar 1) (fVar 2)) fNil))))) (fRet (fC (.bl false))) fNext))
  (fRet (fC (.bl true)))))))))))
noncomputable def f_same : Nat → FN
  | 0 => fun _ _ => .stuck
  | n + 1 => fnC true 3 (fb_same (fun _ => f_same n) n)

noncomputable def fb_characters : FS :=
  (fRet (fC (.str (" !\"#$&'()*+,-./0123456789:;<=>?@ABCDEFGHIJKLMNOPQRSTUVWXYZ[\\]^_`abcdefghijklmnopqrstuvwxyz{|}~" : Str))))
noncomputable def f_characters : FN := fnC true 0 fb_characters

noncomputable def fb_value : FS :=
  (fSeq (fAsg (.name 1) (fCall (gd 2 f_next) (fCons (fVar 0) (fCons (fC (.int 12)) fNil))))
  (fSeq (fIfS (fBl (fOp (oCm .lt) (fVar 1) (fC (.int 5)))) (fRet (fOp oIx (fLst false (fCons (fC (.int 0)) (fCons (fC (.int 1)) (fCons (fC (.int 2)) (fCons (fUn oNeg (fC (.int 1))) (fCons (fC (.int 7)) fNil)))))) (fVar 1))) fNext)
  (fSeq (fIfS (fBl (fOp oEq (fVar 1) (fC (.int 5)))) (fRet (fOp (oMul false) (fOp oSub (fC (.int 1)) (fOp (oMul false) (fC (.int 2)) (fCall (gd 2 f_next) (fCons (fVar 0) (fCons (fC (.int 2)) fNil))))) (fOp oSub (fOp oPow (fC (.int 10)) (fC (.int 9))) (fCall (gd 2 f_next) (fCons (fVar 0) (fCons (fC (.int 3)) fNil)))))) fNext)
  (fSeq (fIfS (fBl (fOp oEq (fVar 1) (fC (.int 6)))) (fRet (fOp oSub (fCall (gd 2 f_next) (fCons (fVar 0) (fCons (fOp (oAdd false) (fOp (oMul false) (fC (.int 2)) (fOp oPow (fC (.int 10)) (fC (.int 9)))) (fC (.int 1))) fNil))) (fOp oPow (fC (.int 10)) (fC (.int 9))))) fNext)
  (fSeq (fIfS (fBl (fOp (oCm .lt) (fVar 1) (fC (.int 10)))) (fRet (fOp oIx (fLst false (fCons (fC (.str ("" : Str))) (fCons (fC (.str ("a" : Str))) (fCons (fC (.str ("ab" : Str))) (fCons (fC (.str ("z~ 9!#" : Str))) fNil))))) (fOp (oAdd false) (fOp oSub (fVar 1) (fC (.int 7))) (fOp (oMul false) (fCall oInt (fCons (fOp oEq (fCall (gd 2 f_next) (fCons (fVar 0) (fCons (fC (.int 9)) fNil))) (fC (.int 0))) fNil)) (fOp (oAdd false) (fOp oSub (fC (.int 9)) (fVar 1)) (fC (.int 1))))))) fNext)
  (fSeq (fAsg (.name 2) (fCall (gd 2 f_next) (fCons (fVar 0) (fCons (fC (.int 94)) fNil))))
  (fSeq (fAsg (.name 3) (fCall (gd 2 f_next) (fCons (fVar 0) (fCons (fC (.int 94)) fNil))))
  (fRet (fJoin (fC (.str ("" : Str))) (fLc false (iR1 (fCons (fCall (gd 2 f_next) (fCons (fVar 0) (fCons (fC (.int 7)) fNil))) fNil)) (.name 4) fYes (fOp oIx (fCall (gd 0 f_characters) fNil) (fOp oMod (fOp (oAdd false) (fVar 2) (fOp (oMul false) (fVar 3) (fVar 4))) (fC (.int 94)))) [4]))))))))))
noncomputable def f_value : FN := fnC true 5 fb_value

noncomputable def fb_bytes : FS :=
  (fSeq (fAsg (.name 1) (fLst false fNil))
  (fSeq (fFor (iSeq (fVar 0)) (.name 2) (fIfS (fTru (fCall oIsi (fCons (fVar 2) (fCons (fC (.ty "str")) fNil)))) (fSeq (fAsg (.name 3) (fCall (gd 0 f_characters) fNil))
  (fAsg (.name 1) (fOp (oAdd false) (fOp (oAdd false) (fOp (oAdd false) (fVar 1) (fLst false (fCons (fC (.int 2)) fNil))) (fLc false (iSeq (fVar 2)) (.name 7) fYes (fOp (oAdd false) (fOp (oAdd false) (fC (.int 32)) (fMt2 isL isS oLIndex oSIndex (fVar 3) (fCons (fVar 7) fNil))) (fCall oInt (fCons (fOp (oCm .gt) (fMt2 isL isS oLIndex oSIndex (fVar 3) (fCons (fVar 7) fNil)) (fC (.int 4))) fNil))) [7])) (fLst false (fCons (fC (.int 0)) fNil))))) (fSeq (fAsg (.name 4) (fOp (oAdd false) (fVar 2) (fC (.int 549755813888))))
  (fSeq (fAsg (.name 5) (fLst false fNil))
  (fSeq (fFor (iR1 (fCons (fC (.int 5)) fNil)) (.name 6) (fSeq (fAsg (.name 5) (fOp (oAdd false) (fLst false (fCons (fOp oMod (fCall oInt (fCons (fVar 4) fNil)) (fC (.int 256))) fNil)) (fVar 5)))
  (fAsg (.name 4) (fOp oFdv (fVar 4) (fC (.int 256))))))
  (fAsg (.name 1) (fOp (oAdd false) (fOp (oAdd false) (fVar 1) (fLst false (fCons (fC (.int 1)) fNil))) (fVar 5))))))))
  (fRet (fCall oTuple (fCons (fVar 1) fNil)))))
noncomputable def f_bytes : FN := fnC true 8 fb_bytes

noncomputable def fb_read : FS :=
  (fSeq (fAsg (.name 1) (fLst true fNil))
  (fSeq (fAsg (.name 2) (fC (.int 0)))
  (fSeq (fFor (iR1 (fCons (fCall oLen (fCons (fVar 0) fNil)) fNil)) (.name 3) (fSeq (fIfS (fBl (fOp oEq (fVar 2) (fCall oLen (fCons (fVar 0) fNil)))) (fRet (fCall oTuple (fCons (fVar 1) fNil))) fNext)
  (fIfS (fAnd (fBl (fOp oEq (fOp oIx (fVar 0) (fVar 2)) (fC (.int 1)))) (fBl (fOp (oCm .le) (fOp (oAdd false) (fVar 2) (fC (.int 6))) (fCall oLen (fCons (fVar 0) fNil))))) (fSeq (fAsg (.name 4) (fC (.int 0)))
  (fSeq (fFor (iSeq (fSl false (fVar 0) (fPart (fOp (oAdd false) (fVar 2) (fC (.int 1)))) (fPart (fOp (oAdd false) (fVar 2) (fC (.int 6)))))) (.name 5) (fAsg (.name 4) (fOp (oAdd false) (fOp (oMul false) (fVar 4) (fC (.int 256))) (fVar 5))))
  (fSeq (fAsg (.name 4) (fOp oSub (fVar 4) (fC (.int 549755813888))))
  (fSeq (fIfS (fBl (fOp (oCm .gt) (fCall oAbs (fCons (fVar 4) fNil)) (fOp oPow (fC (.int 10)) (fC (.int 9))))) (fRet (fC .non)) fNext)
  (fSeq (fDrop (fMt isL oAppend (fVar 1) (fCons (fVar 4) fNil)))
  (fAsg (.name 2) (fOp (oAdd false) (fVar 2) (fC (.int 6))))))))) (fIfS (fAnd (fBl (fOp oEq (fOp oIx (fVar 0) (fVar 2)) (fC (.int 2)))) (fBl (fOp oIn (fC (.int 0)) (fSl false (fVar 0) (fPart (fVar 2)) fNoPart)))) (fSeq (fAsg (.name 6) (fSl false (fVar 0) (fPart (fOp (oAdd false) (fVar 2) (fC (.int 1)))) (fPart (fOp (oAdd false) (fVar 2) (fMt2 isL isS oLIndex oSIndex (fCall (oList false) (fCons (fSl false (fVar 0) (fPart (fVar 2)) fNoPart) fNil)) (fCons (fC (.int 0)) fNil))))))
  (fSeq (fIfS (fOr (fBl (fOp (oCm .gt) (fCall oLen (fCons (fVar 6) fNil)) (fC (.int 6)))) (fBl (fOp oNe (fLc false (iSeq (fVar 6)) (.name 7) (fOr (fBl (fOp (oCm .lt) (fVar 7) (fC (.int 32)))) (fOr (fBl (fOp oEq (fVar 7) (fC (.int 37)))) (fBl (fOp (oCm .gt) (fVar 7) (fC (.int 126)))))) (fVar 7) [7]) (fLst false fNil)))) (fRet (fC .non)) fNext)
  (fSeq (fDrop (fMt isL oAppend (fVar 1) (fCons (fJoin (fC (.str ("" : Str))) (fLc false (iSeq (fVar 6)) (.name 7) fYes (fOp oIx (fCall (gd 0 f_characters) fNil) (fOp oSub (fOp oSub (fVar 7) (fC (.int 32))) (fCall oInt (fCons (fOp (oCm .gt) (fVar 7) (fC (.int 37))) fNil)))) [7])) fNil)))
  (fAsg (.name 2) (fOp (oAdd false) (fOp (oAdd false) (fVar 2) (fCall oLen (fCons (fVar 6) fNil))) (fC (.int 2))))))) (fRet (fC .non))))))
  (fRet (fOp oIx (fLst false (fCons (fC .non) (fCons (fCall oTuple (fCons (fVar 1) fNil)) fNil))) (fCall oInt (fCons (fOp oEq (fVar 2) (fCall oLen (fCons (fVar 0) fNil))) fNil)))))))
noncomputable def f_read : FN := fnC true 8 fb_read

noncomputable def fb_order : FS :=
  (fSeq (fFor (iR1 (fCons (fCall oMin2 (fCons (fCall oLen (fCons (fVar 0) fNil)) (fCons (fCall oLen (fCons (fVar 1) fNil)) fNil))) fNil)) (.name 2) (fSeq (fAsg (.name 3) (fLst false (fCons (fCall oIsi (fCons (fOp oIx (fVar 0) (fVar 2)) (fCons (fC (.ty "str")) fNil))) (fCons (fCall oIsi (fCons (fOp oIx (fVar 1) (fVar 2)) (fCons (fC (.ty "str")) fNil))) fNil))))
  (fSeq (fIfS (fBl (fOp oNe (fOp oIx (fVar 3) (fC (.int 0))) (fOp oIx (fVar 3) (fC (.int 1))))) (fRet (fOp oSub (fC (.int 1)) (fOp (oMul false) (fC (.int 2)) (fCall oInt (fCons (fOp oIx (fVar 3) (fC (.int 1))) fNil))))) fNext)
  (fIfS (fBl (fOp oNe (fOp oIx (fVar 0) (fVar 2)) (fOp oIx (fVar 1) (fVar 2)))) (fRet (fOp oSub (fC (.int 1)) (fOp (oMul false) (fC (.int 2)) (fCall oInt (fCons (fOp (oCm .lt) (fOp oIx (fVar 0) (fVar 2)) (fOp oIx (fVar 1) (fVar 2))) fNil))))) fNext))))
  (fRet (fOp oSub (fCall oInt (fCons (fOp (oCm .gt) (fCall oLen (fCons (fVar 0) fNil)) (fCall oLen (fCons (fVar 1) fNil))) fNil)) (fCall oInt (fCons (fOp (oCm .lt) (fCall oLen (fCons (fVar 0) fNil)) (fCall oLen (fCons (fVar 1) fNil))) fNil)))))
noncomputable def f_order : FN := fnC true 4 fb_order

noncomputable def fb_agrees : FS :=
  (fSeq (fIfS (fOr (fNot (fTru (fCall oIsi (fCons (fVar 0) (fCons (fC (.ty "tuple")) fNil))))) (fNot (fTru (fCall oIsi (fCons (fVar 1) (fCons (fC (.ty "tuple")) fNil)))))) (fRet (fC (.bl false))) fNext)
  (fRet (fOp oEq (fLst false (fCons (fOp (oCm .lt) (fVar 0) (fVar 1)) (fCons (fOp oEq (fVar 0) (fVar 1)) (fCons (fOp (oCm .gt) (fVar 0) (fVar 1)) fNil)))) (fLst false (fCons (fOp (oCm .lt) (fVar 2) (fC (.int 0))) (fCons (fOp oEq (fVar 2) (fC (.int 0))) (fCons (fOp (oCm .gt) (fVar 2) (fC (.int 0))) fNil)))))))
noncomputable def f_agrees : FN := fnC true 3 fb_agrees

noncomputable def fb_ranges : FS :=
  (fSeq (fAsg (.name 2) (fLst false (fCons (fTup (fCons (fTup fNil) (fCons (fTup (fCons (fC (.int 3)) fNil)) fNil))) (fCons (fTup (fCons (fOp oIx (fVar 0) (fC (.int 0))) (fCons (fOp oIx (fVar 0) (fC (.int 0))) fNil))) fNil))))
  (fSeq (fFor (iSeq (fVar 0)) (.name 3) (fAsg (.name 2) (fOp (oAdd false) (fVar 2) (fLst false (fCons (fTup (fCons (fVar 3) (fCons (fOp (oAdd false) (fVar 3) (fTup (fCons (fC (.int 3)) fNil))) fNil))) (fCons (fTup (fCons (fVar 3) (fCons (fOp (oAdd false) (fVar 3) (fTup (fCons (fC (.int 0)) fNil))) fNil))) (fCons (fTup (fCons (fVar 3) (fCons (fOp oIx (fVar 0) (fC (.int 0))) fNil))) fNil)))))))
  (fSeq (fFor (iSeq (fSl false (fVar 1) fNoPart (fPart (fC (.int 3))))) (.name 3) (fAsg (.name 2) (fOp (oAdd false) (fVar 2) (fLst false (fCons (fTup (fCons (fVar 3) (fCons (fTup (fCons (fC (.int 3)) fNil)) fNil))) (fCons (fTup (fCons (fTup fNil) (fCons (fVar 3) fNil))) (fCons (fTup (fCons (fVar 3) (fCons (fOp (oAdd false) (fVar 3) (fTup (fCons (fC (.int 0)) fNil))) fNil))) fNil)))))))
  (fSeq (fFor (iSeq (fVar 2)) (.name 4) (fSeq (fFor (iSeq (fVar 2)) (.name 5) (fSeq (fAsg (.name 3) (fCall oMax2 (fCons (fOp oIx (fVar 4) (fC (.int 0))) (fCons (fOp oIx (fVar 5) (fC (.int 0))) fNil))))
  (fSeq (fAsg (.name 6) (fCall oMin2 (fCons (fOp oIx (fVar 4) (fC (.int 1))) (fCons (fOp oIx (fVar 5) (fC (.int 1))) fNil))))
  (fIfS (fNot (fTru (fCall (gd 2 (f_same 4)) (fCons (fCall (gd 2 f_meet) (fCons (fVar 4) (fCons (fVar 5) fNil))) (fCons (fOp (oCm .lt) (fVar 3) (fVar 6)) fNil))))) (fRet (fC (.bl false))) fNext))))
  (fFor (iSeq (fOp (oAdd false) (fVar 0) (fVar 1))) (.name 7) (fIfS (fNot (fTru (fCall (gd 2 (f_same 4)) (fCons (fCall (gd 2 f_is_in) (fCons (fVar 7) (fCons (fVar 4) fNil))) (fCons (fAndV (fOp (oCm .le) (fOp oIx (fVar 4) (fC (.int 0))) (fVar 7)) (fOp (oCm .lt) (fVar 7) (fOp oIx (fVar 4) (fC (.int 1))))) fNil))))) (fRet (fC (.bl false))) fNext))))
  (fRet (fC (.bl true)))))))
noncomputable def f_ranges : FN := fnC true 8 fb_ranges

noncomputable def fb_law : FS :=
  (fSeq (fAsg (.name 1) (fLst true (fCons (fCall (oList false) (fCons (fVar 0) fNil)) (fCons (fC (.int 0)) (fCons (fC (.int 0)) (fCons (fC (.int 1)) fNil))))))
  (fSeq (fAsg (.name 4) (fLc true (iR1 (fCons (fOp (oAdd false) (fC (.int 1)) (fCall (gd 2 f_next) (fCons (fVar 1) (fCons (fC (.int 6)) fNil)))) fNil)) (.name 2) fYes (fCall oTuple (fCons (fLc false (iR1 (fCons (fCall (gd 2 f_next) (fCons (fVar 1) (fCons (fC (.int 8)) fNil))) fNil)) (.name 3) fYes (fCall (gd 1 f_value) (fCons (fVar 1) fNil)) [3]) fNil)) [2]))
  (fSeq (fIfS (fBl (fOp (oCm .gt) (fCall oLen (fCons (fVar 4) fNil)) (fC (.int 1)))) (fSetS (fVar 4) (fC (.int 1)) (fOp (oAdd false) (fSl false (fOp oIx (fVar 4) (fC (.int 0))) fNoPart (fPart (fC (.int 6)))) (fCall oTuple (fCons (fLc false (iR1 (fCons (fCall (gd 2 f_next) (fCons (fVar 1) (fCons (fC (.int 2)) fNil))) fNil)) (.name 3) fYes (fCall (gd 1 f_value) (fCons (fVar 1) fNil)) [3]) fNil)))) fNext)
  (fSeq (fAsg (.name 5) (fLc false (iSeq (fVar 4)) (.name 13) fYes (fCall (gd 1 f_bytes) (fCons (fVar 13) fNil)) [13]))
  (fSeq (fFor (iR1 (fCons (fCall oLen (fCons (fVar 4) fNil)) fNil)) (.name 2) (fSeq (fIfS (fOr (fNot (fTru (fCall (gd 2 (f_same 4)) (fCons (fCall (gd 1 f_key_of) (fCons (fOp oIx (fVar 4) (fVar 2)) fNil)) (fCons (fOp oIx (fVar 5) (fVar 2)) fNil))))) (fNot (fTru (fCall (gd 2 (f_same 4)) (fCons (fCall (gd 1 f_values_of) (fCons (fOp oIx (fVar 5) (fVar 2)) fNil)) (fCons (fOp oIx (fVar 4) (fVar 2)) fNil)))))) (fRet (fC (.bl false))) fNext)
  (fSeq (fIfS (fNot (fTru (fCall (gd 2 (f_same 4)) (fCons (fCall (gd 1 f_prefix_range) (fCons (fOp oIx (fVar 5) (fVar 2)) fNil)) (fCons (fTup (fCons (fOp oIx (fVar 5) (fVar 2)) (fCons (fOp (oAdd false) (fOp oIx (fVar 5) (fVar 2)) (fTup (fCons (fC (.int 3)) fNil))) fNil))) fNil))))) (fRet (fC (.bl false))) fNext)
  (fFor (iR1 (fCons (fCall oLen (fCons (fVar 4) fNil)) fNil)) (.name 3) (fSeq (fAsg (.name 6) (fCall (gd 2 f_order) (fCons (fOp oIx (fVar 4) (fVar 2)) (fCons (fOp oIx (fVar 4) (fVar 3)) fNil))))
  (fSeq (fIfS (fOr (fNot (fTru (fCall (gd 3 f_agrees) (fCons (fCall (gd 1 f_key_of) (fCons (fOp oIx (fVar 4) (fVar 2)) fNil)) (fCons (fCall (gd 1 f_key_of) (fCons (fOp oIx (fVar 4) (fVar 3)) fNil)) (fCons (fVar 6) fNil)))))) (fNot (fTru (fCall (gd 3 f_agrees) (fCons (fCall (gd 1 f_row_order) (fCons (fOp oIx (fVar 4) (fVar 2)) fNil)) (fCons (fCall (gd 1 f_row_order) (fCons (fOp oIx (fVar 4) (fVar 3)) fNil)) (fCons (fVar 6) fNil))))))) (fRet (fC (.bl false))) fNext)
  (fIfS (fBl (fOp oNe (fCall (gd 2 f_is_in) (fCons (fOp oIx (fVar 5) (fVar 3)) (fCons (fCall (gd 1 f_prefix_range) (fCons (fOp oIx (fVar 5) (fVar 2)) fNil)) fNil))) (fOp oEq (fSl false (fOp oIx (fVar 4) (fVar 3)) fNoPart (fPart (fCall oLen (fCons (fOp oIx (fVar 4) (fVar 2)) fNil)))) (fOp oIx (fVar 4) (fVar 2))))) (fRet (fC (.bl false))) fNext)))))))
  (fSeq (fAsg (.name 7) (fLst false fNil))
  (fSeq (fFor (iR1 (fCons (fC (.int 6)) fNil)) (.name 2) (fSeq (fAsg (.name 8) (fCall (oList false) (fCons (fOp oIx (fVar 5) (fCall (gd 2 f_next) (fCons (fVar 1) (fCons (fCall oLen (fCons (fVar 5) fNil)) fNil)))) fNil)))
  (fSeq (fAsg (.name 9) (fCall (gd 2 f_next) (fCons (fVar 1) (fCons (fOp (oAdd false) (fCall oLen (fCons (fVar 8) fNil)) (fC (.int 1))) fNil))))
  (fSeq (fAsg (.name 10) (fOp oIx (fLst false (fCons (fCall (gd 2 f_next) (fCons (fVar 1) (fCons (fC (.int 256)) fNil))) (fCons (fCall (gd 2 f_next) (fCons (fVar 1) (fCons (fC (.int 4)) fNil))) fNil))) (fCall (gd 2 f_next) (fCons (fVar 1) (fCons (fC (.int 2)) fNil)))))
  (fSeq (fAsg (.name 11) (fCall oTuple (fCons (fLc false (iR1 (fCons (fCall (gd 2 f_next) (fCons (fVar 1) (fCons (fC (.int 9)) fNil))) fNil)) (.name 3) fYes (fOp oIx (fLst false (fCons (fCall (gd 2 f_next) (fCons (fVar 1) (fCons (fC (.int 256)) fNil))) (fCons (fCall (gd 2 f_next) (fCons (fVar 1) (fCons (fC (.int 3)) fNil))) fNil))) (fCall (gd 2 f_next) (fCons (fVar 1) (fCons (fC (.int 2)) fNil)))) [3]) fNil)))
  (fSeq (fFor (iSeq (fLst false (fCons (fCall oTuple (fCons (fOp (oAdd false) (fOp (oAdd false) (fSl false (fVar 8) fNoPart (fPart (fVar 9))) (fLst false (fCons (fVar 10) fNil))) (fSl false (fVar 8) (fPart (fOp (oAdd false) (fVar 9) (fC (.int 1)))) fNoPart)) fNil)) (fCons (fCall oTuple (fCons (fOp (oAdd false) (fOp (oAdd false) (fSl false (fVar 8) fNoPart (fPart (fVar 9))) (fLst false (fCons (fVar 10) fNil))) (fSl false (fVar 8) (fPart (fVar 9)) fNoPart)) fNil)) (fCons (fCall oTuple (fCons (fSl false (fVar 8) fNoPart (fPart (fVar 9))) fNil)) (fCons (fVar 11) fNil)))))) (.name 12) (fIfS (fNot (fTru (fCall (gd 2 (f_same 4)) (fCons (fCall (gd 1 f_values_of) (fCons (fVar 12) fNil)) (fCons (fCall (gd 1 f_read) (fCons (fVar 12) fNil)) fNil))))) (fRet (fC (.bl false))) fNext))
  (fAsg (.name 7) (fOp (oAdd false) (fVar 7) (fLst false (fCons (fVar 11) (fCons (fCall oTuple (fCons (fOp (oAdd false) (fOp (oAdd false) (fSl false (fVar 8) fNoPart (fPart (fVar 9))) (fLst false (fCons (fVar 10) fNil))) (fSl false (fVar 8) (fPart (fVar 9)) fNoPart)) fNil)) fNil)))))))))))
  (fRet (fCall (gd 2 f_ranges) (fCons (fVar 5) (fCons (fSl false (fVar 7) fNoPart (fPart (fC (.int 6)))) fNil)))))))))))
noncomputable def f_law : FN := fnC true 14 fb_law
end
/-! K0 -/
section
open PySem PySem.Spec PyProof.Rows
/-! ### tuples of ints: order, equality -/
theorem datas_ints : ∀ l : List Int, P.datas (l.map .int) = some (l.map .int)
  | [] => by simp only [List.map_nil, P.datas]
  | a :: l => by simp only [List.map_cons, P.datas, P.data, datas_ints l]
theorem data_ints (l : List Int) : P.data (.tup (l.map .int)) = some (.tuple (l.map .int)) := by simp only [P.data, datas_ints, Option.map_some]
theorem data_lints (l : List Int) : P.data (.lst (l.map .int)) = some (.list (l.map .int)) := by simp only [P.data, datas_ints, Option.map_some]
theorem lay_ints : ∀ l : List Int, PyData.canLayAll0 (l.map .int) = true
  | [] => by simp only [List.map_nil, PyData.canLayAll0]
  | a :: l => by simp only [List.map_cons, PyData.canLayAll0, PyData.canLay0, lay_ints l, Bool.and_self]
theorem shaped_tints (l : List Int) : SeqAt.shaped (.tuple (l.map .int)) = true := by
  simp only [SeqAt.shaped, PyData.canLay0, PyData.depth, ints_depth, lay_ints]; decide
theorem shaped_lints (l : List Int) : SeqAt.shaped (.list (l.map .int)) = true := by
  simp only [SeqAt.shaped, PyData.canLay0, PyData.depth, ints_depth, lay_ints]; decide
theorem eqvAll_ints : ∀ a b : List Int, PyData.eqvAll (a.map .int) (b.map .int) = decide (a = b)
  | [], [] => by simp [PyData.eqvAll]
  | [], y :: b => by simp [PyData.eqvAll]
  | x :: a, [] => by simp [PyData.eqvAll]
  | x :: a, y :: b => by
    simp only [List.map_cons, PyData.eqvAll, PyData.eqv, eqvAll_ints a b]
    by_cases h : x = y <;> simp [h]
def cmI : Cm → List Int → List Int → Bool
  | .lt, a, b => lexI a b
  | .le, a, b => !lexI b a
  | .gt, a, b => lexI b a
  | .ge, a, b => !lexI a b
theorem cmpL_ints (o : Cm) (k : Nat) : ∀ a b : List Int, cmpL o (cmpO o k) (a.map .int) (b.map .int) = some (cmI o a b)
  | [], [] => by cases o <;> simp [cmpL, cmI, lexI, Cm.len]
  | [], y :: b => by cases o <;> simp [cmpL, cmI, lexI, Cm.len]
  | x :: a, [] => by cases o <;> simp [cmpL, cmI, lexI, Cm.len]
  | x :: a, y :: b => by
    have hk : ∀ x y, cmpO o k (.int x) (.int y) = some (o.int x y) := fun x y => by unfold cmpO; rfl
    simp only [List.map_cons, cmpL, PyData.eqv, cmpL_ints o k a b, hk]
    by_cases h : x = y
    · subst h
      cases o <;> simp [cmI, lexI]
    · have h' : ¬ y = x := fun e => h e.symm
      cases o
      · simp [cmI, lexI, h, Cm.int]
      · simp only [cmI, lexI, Cm.int, if_neg h, if_neg h', decide_eq_true_eq, reduceIte, decide_eq_false h]
        by_cases q : x ≤ y
        · simp [h, q] <;> omega
        · simp [h, q] <;> omega
      · simp [cmI, lexI, h, h', Cm.int]
      · simp only [cmI, lexI, Cm.int, if_neg h, if_neg h', decide_eq_true_eq, reduceIte, decide_eq_false h]
        by_cases q : y ≤ x
        · simp [h, q] <;> omega
        · simp [h, q] <;> omega
theorem cm_ints (o : Cm) (a b : List Int) (m : M) : oCm o (.tup (a.map .int)) (.tup (b.map .int)) m = .ok (.bl (cmI o a b)) m := by
  have h : cmD o (.tuple (a.map .int)) (.tuple (b.map .int)) = some (cmI o a b) := by
    have hd : decide ((PyData.tuple (a.map .int)).depth ≤ 64) = true := by simp only [PyData.depth, ints_depth]; decide
    unfold cmD
    simp only [PyData.canLay0, lay_ints, hd, Bool.and_self, if_true]
    unfold cmpO
    exact cmpL_ints o 7 a b
  show (match P.data (.tup (a.map .int)), P.data (.tup (b.map .int)) with
    | some a, some b => match cmD o a b with
      | some r => Res.ok (P.bl r) m
      | none => .stuck
    | _, _ => .stuck) = _
  rw [data_ints, data_ints]
  simp only [h]
theorem eqDat_tints (a b : List Int) (m : M) : eqDat (.tup (a.map .int)) (.tup (b.map .int)) m = some (decide (a = b)) := by
  unfold eqDat
  simp only [sh_t, data_ints, shaped_tints, Bool.and_self, if_true, PyData.eqv, eqvAll_ints]
theorem eqDat_lints (a b : List Int) (m : M) : eqDat (.lst (a.map .int)) (.lst (b.map .int)) m = some (decide (a = b)) := by
  unfold eqDat
  simp only [sh_l, data_lints, shaped_lints, Bool.and_self, if_true, PyData.eqv, eqvAll_ints]
theorem eq_tints (a b : List Int) (m : M) : oEq (.tup (a.map .int)) (.tup (b.map .int)) m = .ok (.bl (decide (a = b))) m := by
  rw [eq_tt, eqDat_tints]
theorem intsP_ints : ∀ l : List Int, intsP (l.map .int) = some l
  | [] => by simp [intsP]
  | a :: l => by simp [intsP, intsP_ints l]
theorem max_ints (a b : List Int) (m : M) : oMax2 [.tup (a.map .int), .tup (b.map .int)] m = .ok (.tup ((if lexI a b = true then b else a).map .int)) m := by
  simp only [oMax2, intsP_ints]
  split <;> rfl
theorem min_ints (a b : List Int) (m : M) : oMin2 [.tup (a.map .int), .tup (b.map .int)] m = .ok (.tup ((if lexI b a = true then b else a).map .int)) m := by
  simp only [oMin2, intsP_ints]
  split <;> rfl
theorem atI_nat' {β : Type} {xs : List β} {n : Nat} : atI xs (n : Int) = xs[n]? := by
  unfold atI ixN
  by_cases h : n < xs.length
  · rw [if_pos (by omega), if_pos (by omega)]; simp
  · rw [if_pos (by omega), if_neg (by omega), List.getElem?_eq_none (by omega)]; rfl
theorem atI_0 {β : Type} {x : β} {xs : List β} : atI (x :: xs) 0 = some x := atI_nat' (n := 0)
theorem atI_1 {β : Type} {x y : β} {xs : List β} : atI (x :: y :: xs) 1 = some y := atI_nat' (n := 1)
theorem atI_2 {β : Type} {x y z : β} {xs : List β} : atI (x :: y :: z :: xs) 2 = some z := atI_nat' (n := 2)
theorem atI_3 {β : Type} {x y z w : β} {xs : List β} : atI (x :: y :: z :: w :: xs) 3 = some w := atI_nat' (n := 3)
theorem ixN_nat' {n k : Nat} (h : k < n) : ixN n (k : Int) = some k := by
  unfold ixN
  rw [if_pos (by omega), if_pos (by omega)]; simp

end
/-! K1 -/
section
open PySem PySem.Spec PyProof.Rows
def kp (v : Kv) : P := match v with
  | .n i => .int i
  | .t x => .str (strL x)
def ip (l : List Int) : P := .tup (l.map .int)
theorem strL_len (x : List Nat) : (strL x).length = x.length := by simp [strL, Str.length]
theorem strL_cps (x : List Nat) : (strL x).cps.toList = x := by simp [strL]
theorem bytes_of_t (x : List Nat) (m : M) (hx : x.length ≤ 1000) : f_bytes_of [.str (strL x)] m = .ok (.lst ((kb (.t x)).map .int)) m := by
  have hl : lcG (.name 4) fYes (fCall oOrd (fCons (fVar 4) fNil)) [] [some (.str (strL x)), none, none, none, none] (x.map fun c => .str ⟨#[c]⟩) m = .ok (x.map fun (c : Nat) => .int (c : Int)) m :=
    lcG_map fun c _ => by simp [mkL_f, mkL_t, wipeP, mulOk, lw_l, lw_c, lv_l, lv_c, lv_x, sv_l, sv_c, sv_x, sv_t, lw_i, lw_s, lw_t, lv_s, lv_t, lv_i, lv_n, add_ii, add_ss, add_tt, add_ll, add_lc, add_cl, add_cc, sub_ii, plus_ii, mul_ii, mul_li, fdv_ii, mod_ii, pow_ii, neg_i, sh_i, sh_s, sh_t, sh_l, sh_n, sh_b, sh_c, eq_nn, ne_nn, eq_ni, ne_ni, eq_in, ne_in, eq_nb, ne_nb, eq_bn, ne_bn, eq_ns, ne_ns, eq_sn, ne_sn, eq_ii, ne_ii, eq_bb, ne_bb, eq_ss, ne_ss, eq_is, ne_is, eq_si, ne_si, eq_bs, ne_bs, eq_sb, ne_sb, isn_n, non_n, isn_i, non_i, isn_b, non_b, isn_s, non_s, isn_t, non_t, isn_l, non_l, isn_c, non_c, isn_x, non_x, tru_n, tru_b, tru_i, tru_t, tru_l, notv_b, ix_t, ix_s, ix_l, ix_x, ix_c, ixl_c, sl_t, sl_s, sl_l, sl_c, rev_l, rev_c, len_t, len_l, len_x, len_s, len_c, list_t, list_l, list_x, list_c, tuple_t, tuple_l, tuple_c, int_i, int_b, abs_i, ord_s, isi_n, isi_b, isi_i, isi_s, isi_t, isi_l, isi_c, kindc, max_ii, min_ii, app_c, ext_c, set_c, sidx_ss, cm_ii, cm_ile, cm_igt, cm_ige, isl_l, isl_c, isl_s, iss_s, iss_l, b_ok, b_st, b_ex, o_ok, o_st, o_ex, c_ok, c_st, c_ex, fin_rt, fin_nx, fin_st, nx_nx, nx_rt, nx_bk, nx_ct, nx_ex, nx_st, e_seq, e_var, e_c, e_op, e_un, e_nil, e_cons, e_call, e_tup, e_lst, e_otup, e_olst, e_gd, e_asg, e_drop, e_ret, e_retN, e_next, e_brk, e_cont, e_ifs, e_setS, e_aug, e_augS, e_tru, e_bl, e_and, e_or, e_not, e_andV, e_orV, e_notV, e_if, e_chain, e_nop, e_part, e_sl, e_iSeq, e_iR1, e_iR2, rngOk_of, rngOk2_of, e_for, e_lc, e_yes, e_mt, e_mt2, e_join, e_put, e_fits, Tg.put, TgL.puts, Str.length]
  have h1 : x.length ≤ 100000 := by omega
  have h2 : 1 + x.length ≤ 100000 := by omega
  have h3 : x.length ≤ 99998 := by omega
  unfold f_bytes_of fnC fnF fb_bytes_of
  simp [mkL_f, mkL_t, wipeP, mulOk, lw_l, lw_c, lv_l, lv_c, lv_x, sv_l, sv_c, sv_x, sv_t, lw_i, lw_s, lw_t, lv_s, lv_t, lv_i, lv_n, add_ii, add_ss, add_tt, add_ll, add_lc, add_cl, add_cc, sub_ii, plus_ii, mul_ii, mul_li, fdv_ii, mod_ii, pow_ii, neg_i, sh_i, sh_s, sh_t, sh_l, sh_n, sh_b, sh_c, eq_nn, ne_nn, eq_ni, ne_ni, eq_in, ne_in, eq_nb, ne_nb, eq_bn, ne_bn, eq_ns, ne_ns, eq_sn, ne_sn, eq_ii, ne_ii, eq_bb, ne_bb, eq_ss, ne_ss, eq_is, ne_is, eq_si, ne_si, eq_bs, ne_bs, eq_sb, ne_sb, isn_n, non_n, isn_i, non_i, isn_b, non_b, isn_s, non_s, isn_t, non_t, isn_l, non_l, isn_c, non_c, isn_x, non_x, tru_n, tru_b, tru_i, tru_t, tru_l, notv_b, ix_t, ix_s, ix_l, ix_x, ix_c, ixl_c, sl_t, sl_s, sl_l, sl_c, rev_l, rev_c, len_t, len_l, len_x, len_s, len_c, list_t, list_l, list_x, list_c, tuple_t, tuple_l, tuple_c, int_i, int_b, abs_i, ord_s, isi_n, isi_b, isi_i, isi_s, isi_t, isi_l, isi_c, kindc, max_ii, min_ii, app_c, ext_c, set_c, sidx_ss, cm_ii, cm_ile, cm_igt, cm_ige, isl_l, isl_c, isl_s, iss_s, iss_l, b_ok, b_st, b_ex, o_ok, o_st, o_ex, c_ok, c_st, c_ex, fin_rt, fin_nx, fin_st, nx_nx, nx_rt, nx_bk, nx_ct, nx_ex, nx_st, e_seq, e_var, e_c, e_op, e_un, e_nil, e_cons, e_call, e_tup, e_lst, e_otup, e_olst, e_gd, e_asg, e_drop, e_ret, e_retN, e_next, e_brk, e_cont, e_ifs, e_setS, e_aug, e_augS, e_tru, e_bl, e_and, e_or, e_not, e_andV, e_orV, e_notV, e_if, e_chain, e_nop, e_part, e_sl, e_iSeq, e_iR1, e_iR2, rngOk_of, rngOk2_of, e_for, e_lc, e_yes, e_mt, e_mt2, e_join, e_put, e_fits, Tg.put, TgL.puts, startP, strL_cps, hl, h1, h2, h3]
  rw [cut_tree0 (by simp [uns_all])]
  simp [mkL_f, mkL_t, wipeP, mulOk, lw_l, lw_c, lv_l, lv_c, lv_x, sv_l, sv_c, sv_x, sv_t, lw_i, lw_s, lw_t, lv_s, lv_t, lv_i, lv_n, add_ii, add_ss, add_tt, add_ll, add_lc, add_cl, add_cc, sub_ii, plus_ii, mul_ii, mul_li, fdv_ii, mod_ii, pow_ii, neg_i, sh_i, sh_s, sh_t, sh_l, sh_n, sh_b, sh_c, eq_nn, ne_nn, eq_ni, ne_ni, eq_in, ne_in, eq_nb, ne_nb, eq_bn, ne_bn, eq_ns, ne_ns, eq_sn, ne_sn, eq_ii, ne_ii, eq_bb, ne_bb, eq_ss, ne_ss, eq_is, ne_is, eq_si, ne_si, eq_bs, ne_bs, eq_sb, ne_sb, isn_n, non_n, isn_i, non_i, isn_b, non_b, isn_s, non_s, isn_t, non_t, isn_l, non_l, isn_c, non_c, isn_x, non_x, tru_n, tru_b, tru_i, tru_t, tru_l, notv_b, ix_t, ix_s, ix_l, ix_x, ix_c, ixl_c, sl_t, sl_s, sl_l, sl_c, rev_l, rev_c, len_t, len_l, len_x, len_s, len_c, list_t, list_l, list_x, list_c, tuple_t, tuple_l, tuple_c, int_i, int_b, abs_i, ord_s, isi_n, isi_b, isi_i, isi_s, isi_t, isi_l, isi_c, kindc, max_ii, min_ii, app_c, ext_c, set_c, sidx_ss, cm_ii, cm_ile, cm_igt, cm_ige, isl_l, isl_c, isl_s, iss_s, iss_l, b_ok, b_st, b_ex, o_ok, o_st, o_ex, c_ok, c_st, c_ex, fin_rt, fin_nx, fin_st, nx_nx, nx_rt, nx_bk, nx_ct, nx_ex, nx_st, e_seq, e_var, e_c, e_op, e_un, e_nil, e_cons, e_call, e_tup, e_lst, e_otup, e_olst, e_gd, e_asg, e_drop, e_ret, e_retN, e_next, e_brk, e_cont, e_ifs, e_setS, e_aug, e_augS, e_tru, e_bl, e_and, e_or, e_not, e_andV, e_orV, e_notV, e_if, e_chain, e_nop, e_part, e_sl, e_iSeq, e_iR1, e_iR2, rngOk_of, rngOk2_of, e_for, e_lc, e_yes, e_mt, e_mt2, e_join, e_put, e_fits, Tg.put, TgL.puts, kb, Function.comp_def]
theorem bytes_of_n (i : Int) (m : M) : f_bytes_of [.int i] m = .ok (.lst ((kb (.n i)).map .int)) m := by
  unfold f_bytes_of fnC fnF fb_bytes_of
  simp [mkL_f, mkL_t, wipeP, mulOk, lw_l, lw_c, lv_l, lv_c, lv_x, sv_l, sv_c, sv_x, sv_t, lw_i, lw_s, lw_t, lv_s, lv_t, lv_i, lv_n, add_ii, add_ss, add_tt, add_ll, add_lc, add_cl, add_cc, sub_ii, plus_ii, mul_ii, mul_li, fdv_ii, mod_ii, pow_ii, neg_i, sh_i, sh_s, sh_t, sh_l, sh_n, sh_b, sh_c, eq_nn, ne_nn, eq_ni, ne_ni, eq_in, ne_in, eq_nb, ne_nb, eq_bn, ne_bn, eq_ns, ne_ns, eq_sn, ne_sn, eq_ii, ne_ii, eq_bb, ne_bb, eq_ss, ne_ss, eq_is, ne_is, eq_si, ne_si, eq_bs, ne_bs, eq_sb, ne_sb, isn_n, non_n, isn_i, non_i, isn_b, non_b, isn_s, non_s, isn_t, non_t, isn_l, non_l, isn_c, non_c, isn_x, non_x, tru_n, tru_b, tru_i, tru_t, tru_l, notv_b, ix_t, ix_s, ix_l, ix_x, ix_c, ixl_c, sl_t, sl_s, sl_l, sl_c, rev_l, rev_c, len_t, len_l, len_x, len_s, len_c, list_t, list_l, list_x, list_c, tuple_t, tuple_l, tuple_c, int_i, int_b, abs_i, ord_s, isi_n, isi_b, isi_i, isi_s, isi_t, isi_l, isi_c, kindc, max_ii, min_ii, app_c, ext_c, set_c, sidx_ss, cm_ii, cm_ile, cm_igt, cm_ige, isl_l, isl_c, isl_s, iss_s, iss_l, b_ok, b_st, b_ex, o_ok, o_st, o_ex, c_ok, c_st, c_ex, fin_rt, fin_nx, fin_st, nx_nx, nx_rt, nx_bk, nx_ct, nx_ex, nx_st, e_seq, e_var, e_c, e_op, e_un, e_nil, e_cons, e_call, e_tup, e_lst, e_otup, e_olst, e_gd, e_asg, e_drop, e_ret, e_retN, e_next, e_brk, e_cont, e_ifs, e_setS, e_aug, e_augS, e_tru, e_bl, e_and, e_or, e_not, e_andV, e_orV, e_notV, e_if, e_chain, e_nop, e_part, e_sl, e_iSeq, e_iR1, e_iR2, rngOk_of, rngOk2_of, e_for, e_lc, e_yes, e_mt, e_mt2, e_join, e_put, e_fits, Tg.put, TgL.puts, startP, rngP, List.range_succ, forG_cons, forG_nil]
  rw [cut_tree (by simp)]
  simp [mkL_f, mkL_t, wipeP, mulOk, lw_l, lw_c, lv_l, lv_c, lv_x, sv_l, sv_c, sv_x, sv_t, lw_i, lw_s, lw_t, lv_s, lv_t, lv_i, lv_n, add_ii, add_ss, add_tt, add_ll, add_lc, add_cl, add_cc, sub_ii, plus_ii, mul_ii, mul_li, fdv_ii, mod_ii, pow_ii, neg_i, sh_i, sh_s, sh_t, sh_l, sh_n, sh_b, sh_c, eq_nn, ne_nn, eq_ni, ne_ni, eq_in, ne_in, eq_nb, ne_nb, eq_bn, ne_bn, eq_ns, ne_ns, eq_sn, ne_sn, eq_ii, ne_ii, eq_bb, ne_bb, eq_ss, ne_ss, eq_is, ne_is, eq_si, ne_si, eq_bs, ne_bs, eq_sb, ne_sb, isn_n, non_n, isn_i, non_i, isn_b, non_b, isn_s, non_s, isn_t, non_t, isn_l, non_l, isn_c, non_c, isn_x, non_x, tru_n, tru_b, tru_i, tru_t, tru_l, notv_b, ix_t, ix_s, ix_l, ix_x, ix_c, ixl_c, sl_t, sl_s, sl_l, sl_c, rev_l, rev_c, len_t, len_l, len_x, len_s, len_c, list_t, list_l, list_x, list_c, tuple_t, tuple_l, tuple_c, int_i, int_b, abs_i, ord_s, isi_n, isi_b, isi_i, isi_s, isi_t, isi_l, isi_c, kindc, max_ii, min_ii, app_c, ext_c, set_c, sidx_ss, cm_ii, cm_ile, cm_igt, cm_ige, isl_l, isl_c, isl_s, iss_s, iss_l, b_ok, b_st, b_ex, o_ok, o_st, o_ex, c_ok, c_st, c_ex, fin_rt, fin_nx, fin_st, nx_nx, nx_rt, nx_bk, nx_ct, nx_ex, nx_st, e_seq, e_var, e_c, e_op, e_un, e_nil, e_cons, e_call, e_tup, e_lst, e_otup, e_olst, e_gd, e_asg, e_drop, e_ret, e_retN, e_next, e_brk, e_cont, e_ifs, e_setS, e_aug, e_augS, e_tru, e_bl, e_and, e_or, e_not, e_andV, e_orV, e_notV, e_if, e_chain, e_nop, e_part, e_sl, e_iSeq, e_iR1, e_iR2, rngOk_of, rngOk2_of, e_for, e_lc, e_yes, e_mt, e_mt2, e_join, e_put, e_fits, Tg.put, TgL.puts, kb, dig5]
  omega
theorem kb_len (v : Kv) : (kb v).length ≤ 6 ∨ ∃ x, v = .t x ∧ (kb v).length = x.length + 2 := by
  cases v with
  | n i => exact .inl (by simp [kb, dig5])
  | t x => exact .inr ⟨x, rfl, by simp [kb]⟩
theorem kb_len8 {v : Kv} (h : v.Good) : (kb v).length ≤ 8 := by
  rcases kb_len v with q | ⟨x, rfl, q⟩
  · omega
  · have := h.1; omega
theorem bytes_of_k {v : Kv} (h : v.Good) (m : M) : f_bytes_of [kp v] m = .ok (.lst ((kb v).map .int)) m := by
  cases v with
  | n i => exact bytes_of_n i m
  | t x => exact bytes_of_t x m (by have := h.1; omega)
theorem keyB_len {vs : List Kv} (h : ∀ v ∈ vs, v.Good) : (keyB vs).length ≤ 8 * vs.length := by
  induction vs with
  | nil => simp [keyB]
  | cons v vs ih =>
    have h1 := kb_len8 (h v List.mem_cons_self)
    have h2 := ih fun w hw => h w (List.mem_cons_of_mem _ hw)
    simp only [keyB, List.length_append, List.length_cons]
    omega
theorem key_of_k {vs : List Kv} (h : ∀ v ∈ vs, v.Good) (hl : vs.length ≤ 1000) (m : M) : f_key_of [.tup (vs.map kp)] m = .ok (ip (keyB vs)) m := by
  have loop : ∀ (ws : List Kv) (acc : List Int) (a : P) (o : Option P), (∀ v ∈ ws, v.Good) → acc.length + 8 * ws.length ≤ 100000 →
      ∃ o', forG (.name 2) (fDrop (fMt isL oExtend (fVar 1) (fCons (fCall (gd 1 f_bytes_of) (fCons (fVar 2) fNil)) fNil))) [] (ws.map kp) [some a, some (.cell m.length), o] (m ++ [.lst (acc.map .int)]) = .nx [some a, some (.cell m.length), o'] (m ++ [.lst ((acc ++ keyB ws).map .int)]) := by
    intro ws
    induction ws with
    | nil => intro acc a o _ _; exact ⟨o, by simp [forG_nil, keyB]⟩
    | cons v ws ih =>
      intro acc a o hg hl
      have h1 := kb_len8 (hg v List.mem_cons_self)
      simp only [List.length_cons] at hl
      have h2 : acc.length + (kb v).length ≤ 100000 := by omega
      obtain ⟨o', ho⟩ := ih (acc ++ kb v) a (some (kp v)) (fun w hw => hg w (List.mem_cons_of_mem _ hw)) (by simp only [List.length_append]; omega)
      refine ⟨o', ?_⟩
      rw [List.map_cons, forG_cons]
      simp [mkL_f, mkL_t, wipeP, mulOk, lw_l, lw_c, lv_l, lv_c, lv_x, sv_l, sv_c, sv_x, sv_t, lw_i, lw_s, lw_t, lv_s, lv_t, lv_i, lv_n, add_ii, add_ss, add_tt, add_ll, add_lc, add_cl, add_cc, sub_ii, plus_ii, mul_ii, mul_li, fdv_ii, mod_ii, pow_ii, neg_i, sh_i, sh_s, sh_t, sh_l, sh_n, sh_b, sh_c, eq_nn, ne_nn, eq_ni, ne_ni, eq_in, ne_in, eq_nb, ne_nb, eq_bn, ne_bn, eq_ns, ne_ns, eq_sn, ne_sn, eq_ii, ne_ii, eq_bb, ne_bb, eq_ss, ne_ss, eq_is, ne_is, eq_si, ne_si, eq_bs, ne_bs, eq_sb, ne_sb, isn_n, non_n, isn_i, non_i, isn_b, non_b, isn_s, non_s, isn_t, non_t, isn_l, non_l, isn_c, non_c, isn_x, non_x, tru_n, tru_b, tru_i, tru_t, tru_l, notv_b, ix_t, ix_s, ix_l, ix_x, ix_c, ixl_c, sl_t, sl_s, sl_l, sl_c, rev_l, rev_c, len_t, len_l, len_x, len_s, len_c, list_t, list_l, list_x, list_c, tuple_t, tuple_l, tuple_c, int_i, int_b, abs_i, ord_s, isi_n, isi_b, isi_i, isi_s, isi_t, isi_l, isi_c, kindc, max_ii, min_ii, app_c, ext_c, set_c, sidx_ss, cm_ii, cm_ile, cm_igt, cm_ige, isl_l, isl_c, isl_s, iss_s, iss_l, b_ok, b_st, b_ex, o_ok, o_st, o_ex, c_ok, c_st, c_ex, fin_rt, fin_nx, fin_st, nx_nx, nx_rt, nx_bk, nx_ct, nx_ex, nx_st, e_seq, e_var, e_c, e_op, e_un, e_nil, e_cons, e_call, e_tup, e_lst, e_otup, e_olst, e_gd, e_asg, e_drop, e_ret, e_retN, e_next, e_brk, e_cont, e_ifs, e_setS, e_aug, e_augS, e_tru, e_bl, e_and, e_or, e_not, e_andV, e_orV, e_notV, e_if, e_chain, e_nop, e_part, e_sl, e_iSeq, e_iR1, e_iR2, rngOk_of, rngOk2_of, e_for, e_lc, e_yes, e_mt, e_mt2, e_join, e_put, e_fits, Tg.put, TgL.puts, bytes_of_k (hg v List.mem_cons_self), h2]
      simp [keyB] at ho
      simpa [keyB] using ho
  obtain ⟨o', ho⟩ := loop vs [] (.tup (vs.map kp)) none h (by simp; omega)
  simp at ho
  unfold f_key_of fnC fnF fb_key_of
  simp [mkL_f, mkL_t, wipeP, mulOk, lw_l, lw_c, lv_l, lv_c, lv_x, sv_l, sv_c, sv_x, sv_t, lw_i, lw_s, lw_t, lv_s, lv_t, lv_i, lv_n, add_ii, add_ss, add_tt, add_ll, add_lc, add_cl, add_cc, sub_ii, plus_ii, mul_ii, mul_li, fdv_ii, mod_ii, pow_ii, neg_i, sh_i, sh_s, sh_t, sh_l, sh_n, sh_b, sh_c, eq_nn, ne_nn, eq_ni, ne_ni, eq_in, ne_in, eq_nb, ne_nb, eq_bn, ne_bn, eq_ns, ne_ns, eq_sn, ne_sn, eq_ii, ne_ii, eq_bb, ne_bb, eq_ss, ne_ss, eq_is, ne_is, eq_si, ne_si, eq_bs, ne_bs, eq_sb, ne_sb, isn_n, non_n, isn_i, non_i, isn_b, non_b, isn_s, non_s, isn_t, non_t, isn_l, non_l, isn_c, non_c, isn_x, non_x, tru_n, tru_b, tru_i, tru_t, tru_l, notv_b, ix_t, ix_s, ix_l, ix_x, ix_c, ixl_c, sl_t, sl_s, sl_l, sl_c, rev_l, rev_c, len_t, len_l, len_x, len_s, len_c, list_t, list_l, list_x, list_c, tuple_t, tuple_l, tuple_c, int_i, int_b, abs_i, ord_s, isi_n, isi_b, isi_i, isi_s, isi_t, isi_l, isi_c, kindc, max_ii, min_ii, app_c, ext_c, set_c, sidx_ss, cm_ii, cm_ile, cm_igt, cm_ige, isl_l, isl_c, isl_s, iss_s, iss_l, b_ok, b_st, b_ex, o_ok, o_st, o_ex, c_ok, c_st, c_ex, fin_rt, fin_nx, fin_st, nx_nx, nx_rt, nx_bk, nx_ct, nx_ex, nx_st, e_seq, e_var, e_c, e_op, e_un, e_nil, e_cons, e_call, e_tup, e_lst, e_otup, e_olst, e_gd, e_asg, e_drop, e_ret, e_retN, e_next, e_brk, e_cont, e_ifs, e_setS, e_aug, e_augS, e_tru, e_bl, e_and, e_or, e_not, e_andV, e_orV, e_notV, e_if, e_chain, e_nop, e_part, e_sl, e_iSeq, e_iR1, e_iR2, rngOk_of, rngOk2_of, e_for, e_lc, e_yes, e_mt, e_mt2, e_join, e_put, e_fits, Tg.put, TgL.puts, startP, ho]
  rw [cut_tree (by simp)]
  simp [mkL_f, mkL_t, wipeP, mulOk, lw_l, lw_c, lv_l, lv_c, lv_x, sv_l, sv_c, sv_x, sv_t, lw_i, lw_s, lw_t, lv_s, lv_t, lv_i, lv_n, add_ii, add_ss, add_tt, add_ll, add_lc, add_cl, add_cc, sub_ii, plus_ii, mul_ii, mul_li, fdv_ii, mod_ii, pow_ii, neg_i, sh_i, sh_s, sh_t, sh_l, sh_n, sh_b, sh_c, eq_nn, ne_nn, eq_ni, ne_ni, eq_in, ne_in, eq_nb, ne_nb, eq_bn, ne_bn, eq_ns, ne_ns, eq_sn, ne_sn, eq_ii, ne_ii, eq_bb, ne_bb, eq_ss, ne_ss, eq_is, ne_is, eq_si, ne_si, eq_bs, ne_bs, eq_sb, ne_sb, isn_n, non_n, isn_i, non_i, isn_b, non_b, isn_s, non_s, isn_t, non_t, isn_l, non_l, isn_c, non_c, isn_x, non_x, tru_n, tru_b, tru_i, tru_t, tru_l, notv_b, ix_t, ix_s, ix_l, ix_x, ix_c, ixl_c, sl_t, sl_s, sl_l, sl_c, rev_l, rev_c, len_t, len_l, len_x, len_s, len_c, list_t, list_l, list_x, list_c, tuple_t, tuple_l, tuple_c, int_i, int_b, abs_i, ord_s, isi_n, isi_b, isi_i, isi_s, isi_t, isi_l, isi_c, kindc, max_ii, min_ii, app_c, ext_c, set_c, sidx_ss, cm_ii, cm_ile, cm_igt, cm_ige, isl_l, isl_c, isl_s, iss_s, iss_l, b_ok, b_st, b_ex, o_ok, o_st, o_ex, c_ok, c_st, c_ex, fin_rt, fin_nx, fin_st, nx_nx, nx_rt, nx_bk, nx_ct, nx_ex, nx_st, e_seq, e_var, e_c, e_op, e_un, e_nil, e_cons, e_call, e_tup, e_lst, e_otup, e_olst, e_gd, e_asg, e_drop, e_ret, e_retN, e_next, e_brk, e_cont, e_ifs, e_setS, e_aug, e_augS, e_tru, e_bl, e_and, e_or, e_not, e_andV, e_orV, e_notV, e_if, e_chain, e_nop, e_part, e_sl, e_iSeq, e_iR1, e_iR2, rngOk_of, rngOk2_of, e_for, e_lc, e_yes, e_mt, e_mt2, e_join, e_put, e_fits, Tg.put, TgL.puts, ip]
theorem prefix_range_k (k : List Int) (m : M) (h : k.length ≤ 90000) : f_prefix_range [ip k] m = .ok (.tup [ip k, ip (k ++ [3])]) m := by
  have h2 : k.length ≤ 99999 := by omega
  unfold f_prefix_range fnC fnF fb_prefix_range
  simp [mkL_f, mkL_t, wipeP, mulOk, lw_l, lw_c, lv_l, lv_c, lv_x, sv_l, sv_c, sv_x, sv_t, lw_i, lw_s, lw_t, lv_s, lv_t, lv_i, lv_n, add_ii, add_ss, add_tt, add_ll, add_lc, add_cl, add_cc, sub_ii, plus_ii, mul_ii, mul_li, fdv_ii, mod_ii, pow_ii, neg_i, sh_i, sh_s, sh_t, sh_l, sh_n, sh_b, sh_c, eq_nn, ne_nn, eq_ni, ne_ni, eq_in, ne_in, eq_nb, ne_nb, eq_bn, ne_bn, eq_ns, ne_ns, eq_sn, ne_sn, eq_ii, ne_ii, eq_bb, ne_bb, eq_ss, ne_ss, eq_is, ne_is, eq_si, ne_si, eq_bs, ne_bs, eq_sb, ne_sb, isn_n, non_n, isn_i, non_i, isn_b, non_b, isn_s, non_s, isn_t, non_t, isn_l, non_l, isn_c, non_c, isn_x, non_x, tru_n, tru_b, tru_i, tru_t, tru_l, notv_b, ix_t, ix_s, ix_l, ix_x, ix_c, ixl_c, sl_t, sl_s, sl_l, sl_c, rev_l, rev_c, len_t, len_l, len_x, len_s, len_c, list_t, list_l, list_x, list_c, tuple_t, tuple_l, tuple_c, int_i, int_b, abs_i, ord_s, isi_n, isi_b, isi_i, isi_s, isi_t, isi_l, isi_c, kindc, max_ii, min_ii, app_c, ext_c, set_c, sidx_ss, cm_ii, cm_ile, cm_igt, cm_ige, isl_l, isl_c, isl_s, iss_s, iss_l, b_ok, b_st, b_ex, o_ok, o_st, o_ex, c_ok, c_st, c_ex, fin_rt, fin_nx, fin_st, nx_nx, nx_rt, nx_bk, nx_ct, nx_ex, nx_st, e_seq, e_var, e_c, e_op, e_un, e_nil, e_cons, e_call, e_tup, e_lst, e_otup, e_olst, e_gd, e_asg, e_drop, e_ret, e_retN, e_next, e_brk, e_cont, e_ifs, e_setS, e_aug, e_augS, e_tru, e_bl, e_and, e_or, e_not, e_andV, e_orV, e_notV, e_if, e_chain, e_nop, e_part, e_sl, e_iSeq, e_iR1, e_iR2, rngOk_of, rngOk2_of, e_for, e_lc, e_yes, e_mt, e_mt2, e_join, e_put, e_fits, Tg.put, TgL.puts, startP, ip, h2]
  rw [cut_tree0 (by simp)]
  simp [mkL_f, mkL_t, wipeP, mulOk, lw_l, lw_c, lv_l, lv_c, lv_x, sv_l, sv_c, sv_x, sv_t, lw_i, lw_s, lw_t, lv_s, lv_t, lv_i, lv_n, add_ii, add_ss, add_tt, add_ll, add_lc, add_cl, add_cc, sub_ii, plus_ii, mul_ii, mul_li, fdv_ii, mod_ii, pow_ii, neg_i, sh_i, sh_s, sh_t, sh_l, sh_n, sh_b, sh_c, eq_nn, ne_nn, eq_ni, ne_ni, eq_in, ne_in, eq_nb, ne_nb, eq_bn, ne_bn, eq_ns, ne_ns, eq_sn, ne_sn, eq_ii, ne_ii, eq_bb, ne_bb, eq_ss, ne_ss, eq_is, ne_is, eq_si, ne_si, eq_bs, ne_bs, eq_sb, ne_sb, isn_n, non_n, isn_i, non_i, isn_b, non_b, isn_s, non_s, isn_t, non_t, isn_l, non_l, isn_c, non_c, isn_x, non_x, tru_n, tru_b, tru_i, tru_t, tru_l, notv_b, ix_t, ix_s, ix_l, ix_x, ix_c, ixl_c, sl_t, sl_s, sl_l, sl_c, rev_l, rev_c, len_t, len_l, len_x, len_s, len_c, list_t, list_l, list_x, list_c, tuple_t, tuple_l, tuple_c, int_i, int_b, abs_i, ord_s, isi_n, isi_b, isi_i, isi_s, isi_t, isi_l, isi_c, kindc, max_ii, min_ii, app_c, ext_c, set_c, sidx_ss, cm_ii, cm_ile, cm_igt, cm_ige, isl_l, isl_c, isl_s, iss_s, iss_l, b_ok, b_st, b_ex, o_ok, o_st, o_ex, c_ok, c_st, c_ex, fin_rt, fin_nx, fin_st, nx_nx, nx_rt, nx_bk, nx_ct, nx_ex, nx_st, e_seq, e_var, e_c, e_op, e_un, e_nil, e_cons, e_call, e_tup, e_lst, e_otup, e_olst, e_gd, e_asg, e_drop, e_ret, e_retN, e_next, e_brk, e_cont, e_ifs, e_setS, e_aug, e_augS, e_tru, e_bl, e_and, e_or, e_not, e_andV, e_orV, e_notV, e_if, e_chain, e_nop, e_part, e_sl, e_iSeq, e_iR1, e_iR2, rngOk_of, rngOk2_of, e_for, e_lc, e_yes, e_mt, e_mt2, e_join, e_put, e_fits, Tg.put, TgL.puts]
theorem is_in_k (k lo hi : List Int) (m : M) : f_is_in [ip k, .tup [ip lo, ip hi]] m = .ok (.bl (!lexI k lo && lexI k hi)) m := by
  unfold f_is_in fnC fnF fb_is_in
  simp [mkL_f, mkL_t, wipeP, mulOk, lw_l, lw_c, lv_l, lv_c, lv_x, sv_l, sv_c, sv_x, sv_t, lw_i, lw_s, lw_t, lv_s, lv_t, lv_i, lv_n, add_ii, add_ss, add_tt, add_ll, add_lc, add_cl, add_cc, sub_ii, plus_ii, mul_ii, mul_li, fdv_ii, mod_ii, pow_ii, neg_i, sh_i, sh_s, sh_t, sh_l, sh_n, sh_b, sh_c, eq_nn, ne_nn, eq_ni, ne_ni, eq_in, ne_in, eq_nb, ne_nb, eq_bn, ne_bn, eq_ns, ne_ns, eq_sn, ne_sn, eq_ii, ne_ii, eq_bb, ne_bb, eq_ss, ne_ss, eq_is, ne_is, eq_si, ne_si, eq_bs, ne_bs, eq_sb, ne_sb, isn_n, non_n, isn_i, non_i, isn_b, non_b, isn_s, non_s, isn_t, non_t, isn_l, non_l, isn_c, non_c, isn_x, non_x, tru_n, tru_b, tru_i, tru_t, tru_l, notv_b, ix_t, ix_s, ix_l, ix_x, ix_c, ixl_c, sl_t, sl_s, sl_l, sl_c, rev_l, rev_c, len_t, len_l, len_x, len_s, len_c, list_t, list_l, list_x, list_c, tuple_t, tuple_l, tuple_c, int_i, int_b, abs_i, ord_s, isi_n, isi_b, isi_i, isi_s, isi_t, isi_l, isi_c, kindc, max_ii, min_ii, app_c, ext_c, set_c, sidx_ss, cm_ii, cm_ile, cm_igt, cm_ige, isl_l, isl_c, isl_s, iss_s, iss_l, b_ok, b_st, b_ex, o_ok, o_st, o_ex, c_ok, c_st, c_ex, fin_rt, fin_nx, fin_st, nx_nx, nx_rt, nx_bk, nx_ct, nx_ex, nx_st, e_seq, e_var, e_c, e_op, e_un, e_nil, e_cons, e_call, e_tup, e_lst, e_otup, e_olst, e_gd, e_asg, e_drop, e_ret, e_retN, e_next, e_brk, e_cont, e_ifs, e_setS, e_aug, e_augS, e_tru, e_bl, e_and, e_or, e_not, e_andV, e_orV, e_notV, e_if, e_chain, e_nop, e_part, e_sl, e_iSeq, e_iR1, e_iR2, rngOk_of, rngOk2_of, e_for, e_lc, e_yes, e_mt, e_mt2, e_join, e_put, e_fits, Tg.put, TgL.puts, startP, ip, cm_ints, cmI]
  cases lexI k lo <;> simp [mkL_f, mkL_t, wipeP, mulOk, lw_l, lw_c, lv_l, lv_c, lv_x, sv_l, sv_c, sv_x, sv_t, lw_i, lw_s, lw_t, lv_s, lv_t, lv_i, lv_n, add_ii, add_ss, add_tt, add_ll, add_lc, add_cl, add_cc, sub_ii, plus_ii, mul_ii, mul_li, fdv_ii, mod_ii, pow_ii, neg_i, sh_i, sh_s, sh_t, sh_l, sh_n, sh_b, sh_c, eq_nn, ne_nn, eq_ni, ne_ni, eq_in, ne_in, eq_nb, ne_nb, eq_bn, ne_bn, eq_ns, ne_ns, eq_sn, ne_sn, eq_ii, ne_ii, eq_bb, ne_bb, eq_ss, ne_ss, eq_is, ne_is, eq_si, ne_si, eq_bs, ne_bs, eq_sb, ne_sb, isn_n, non_n, isn_i, non_i, isn_b, non_b, isn_s, non_s, isn_t, non_t, isn_l, non_l, isn_c, non_c, isn_x, non_x, tru_n, tru_b, tru_i, tru_t, tru_l, notv_b, ix_t, ix_s, ix_l, ix_x, ix_c, ixl_c, sl_t, sl_s, sl_l, sl_c, rev_l, rev_c, len_t, len_l, len_x, len_s, len_c, list_t, list_l, list_x, list_c, tuple_t, tuple_l, tuple_c, int_i, int_b, abs_i, ord_s, isi_n, isi_b, isi_i, isi_s, isi_t, isi_l, isi_c, kindc, max_ii, min_ii, app_c, ext_c, set_c, sidx_ss, cm_ii, cm_ile, cm_igt, cm_ige, isl_l, isl_c, isl_s, iss_s, iss_l, b_ok, b_st, b_ex, o_ok, o_st, o_ex, c_ok, c_st, c_ex, fin_rt, fin_nx, fin_st, nx_nx, nx_rt, nx_bk, nx_ct, nx_ex, nx_st, e_seq, e_var, e_c, e_op, e_un, e_nil, e_cons, e_call, e_tup, e_lst, e_otup, e_olst, e_gd, e_asg, e_drop, e_ret, e_retN, e_next, e_brk, e_cont, e_ifs, e_setS, e_aug, e_augS, e_tru, e_bl, e_and, e_or, e_not, e_andV, e_orV, e_notV, e_if, e_chain, e_nop, e_part, e_sl, e_iSeq, e_iR1, e_iR2, rngOk_of, rngOk2_of, e_for, e_lc, e_yes, e_mt, e_mt2, e_join, e_put, e_fits, Tg.put, TgL.puts, cm_ints, cmI, cut_tree0]
theorem meet_k (a b c d : List Int) (m : M) : f_meet [.tup [ip a, ip b], .tup [ip c, ip d]] m = .ok (.bl (lexI (if lexI a c = true then c else a) (if lexI d b = true then d else b))) m := by
  unfold f_meet fnC fnF fb_meet
  simp only [ip]
  simp [mkL_f, mkL_t, wipeP, mulOk, lw_l, lw_c, lv_l, lv_c, lv_x, sv_l, sv_c, sv_x, sv_t, lw_i, lw_s, lw_t, lv_s, lv_t, lv_i, lv_n, add_ii, add_ss, add_tt, add_ll, add_lc, add_cl, add_cc, sub_ii, plus_ii, mul_ii, mul_li, fdv_ii, mod_ii, pow_ii, neg_i, sh_i, sh_s, sh_t, sh_l, sh_n, sh_b, sh_c, eq_nn, ne_nn, eq_ni, ne_ni, eq_in, ne_in, eq_nb, ne_nb, eq_bn, ne_bn, eq_ns, ne_ns, eq_sn, ne_sn, eq_ii, ne_ii, eq_bb, ne_bb, eq_ss, ne_ss, eq_is, ne_is, eq_si, ne_si, eq_bs, ne_bs, eq_sb, ne_sb, isn_n, non_n, isn_i, non_i, isn_b, non_b, isn_s, non_s, isn_t, non_t, isn_l, non_l, isn_c, non_c, isn_x, non_x, tru_n, tru_b, tru_i, tru_t, tru_l, notv_b, ix_t, ix_s, ix_l, ix_x, ix_c, ixl_c, sl_t, sl_s, sl_l, sl_c, rev_l, rev_c, len_t, len_l, len_x, len_s, len_c, list_t, list_l, list_x, list_c, tuple_t, tuple_l, tuple_c, int_i, int_b, abs_i, ord_s, isi_n, isi_b, isi_i, isi_s, isi_t, isi_l, isi_c, kindc, max_ii, min_ii, app_c, ext_c, set_c, sidx_ss, cm_ii, cm_ile, cm_igt, cm_ige, isl_l, isl_c, isl_s, iss_s, iss_l, b_ok, b_st, b_ex, o_ok, o_st, o_ex, c_ok, c_st, c_ex, fin_rt, fin_nx, fin_st, nx_nx, nx_rt, nx_bk, nx_ct, nx_ex, nx_st, e_seq, e_var, e_c, e_op, e_un, e_nil, e_cons, e_call, e_tup, e_lst, e_otup, e_olst, e_gd, e_asg, e_drop, e_ret, e_retN, e_next, e_brk, e_cont, e_ifs, e_setS, e_aug, e_augS, e_tru, e_bl, e_and, e_or, e_not, e_andV, e_orV, e_notV, e_if, e_chain, e_nop, e_part, e_sl, e_iSeq, e_iR1, e_iR2, rngOk_of, rngOk2_of, e_for, e_lc, e_yes, e_mt, e_mt2, e_join, e_put, e_fits, Tg.put, TgL.puts, startP, cm_ints, cmI, atI_0, atI_1, max_ints, min_ints, cut_tree0]
/-! ### row_order -/
def kpr (v : Kv) : P := .tup [.int v.kind, kp v]
theorem row_order_k (vs : List Kv) (hl : vs.length ≤ 1000) (m : M) : f_row_order [.tup (vs.map kp)] m = .ok (.tup (vs.map kpr)) m := by
  have hm : lcG (.name 1) fYes (fTup (fCons (fCall oInt (fCons (fCall oIsi (fCons (fVar 1) (fCons (fC (.ty "str")) fNil))) fNil)) (fCons (fVar 1) fNil))) [] [some (.tup (vs.map kp)), none] (vs.map kp) m = .ok (vs.map kpr) m :=
    lcG_map fun v _ => by cases v <;> simp [mkL_f, mkL_t, wipeP, mulOk, lw_l, lw_c, lv_l, lv_c, lv_x, sv_l, sv_c, sv_x, sv_t, lw_i, lw_s, lw_t, lv_s, lv_t, lv_i, lv_n, add_ii, add_ss, add_tt, add_ll, add_lc, add_cl, add_cc, sub_ii, plus_ii, mul_ii, mul_li, fdv_ii, mod_ii, pow_ii, neg_i, sh_i, sh_s, sh_t, sh_l, sh_n, sh_b, sh_c, eq_nn, ne_nn, eq_ni, ne_ni, eq_in, ne_in, eq_nb, ne_nb, eq_bn, ne_bn, eq_ns, ne_ns, eq_sn, ne_sn, eq_ii, ne_ii, eq_bb, ne_bb, eq_ss, ne_ss, eq_is, ne_is, eq_si, ne_si, eq_bs, ne_bs, eq_sb, ne_sb, isn_n, non_n, isn_i, non_i, isn_b, non_b, isn_s, non_s, isn_t, non_t, isn_l, non_l, isn_c, non_c, isn_x, non_x, tru_n, tru_b, tru_i, tru_t, tru_l, notv_b, ix_t, ix_s, ix_l, ix_x, ix_c, ixl_c, sl_t, sl_s, sl_l, sl_c, rev_l, rev_c, len_t, len_l, len_x, len_s, len_c, list_t, list_l, list_x, list_c, tuple_t, tuple_l, tuple_c, int_i, int_b, abs_i, ord_s, isi_n, isi_b, isi_i, isi_s, isi_t, isi_l, isi_c, kindc, max_ii, min_ii, app_c, ext_c, set_c, sidx_ss, cm_ii, cm_ile, cm_igt, cm_ige, isl_l, isl_c, isl_s, iss_s, iss_l, b_ok, b_st, b_ex, o_ok, o_st, o_ex, c_ok, c_st, c_ex, fin_rt, fin_nx, fin_st, nx_nx, nx_rt, nx_bk, nx_ct, nx_ex, nx_st, e_seq, e_var, e_c, e_op, e_un, e_nil, e_cons, e_call, e_tup, e_lst, e_otup, e_olst, e_gd, e_asg, e_drop, e_ret, e_retN, e_next, e_brk, e_cont, e_ifs, e_setS, e_aug, e_augS, e_tru, e_bl, e_and, e_or, e_not, e_andV, e_orV, e_notV, e_if, e_chain, e_nop, e_part, e_sl, e_iSeq, e_iR1, e_iR2, rngOk_of, rngOk2_of, e_for, e_lc, e_yes, e_mt, e_mt2, e_join, e_put, e_fits, Tg.put, TgL.puts, kp, kpr, Kv.kind]
  have h1 : vs.length ≤ 100000 := by omega
  have hu : P.unders m.length (vs.map kpr) = true := uns_all fun x hx => by
    obtain ⟨v, _, rfl⟩ := List.mem_map.mp hx
    cases v <;> simp [kpr, kp]
  unfold f_row_order fnC fnF fb_row_order
  simp [mkL_f, mkL_t, wipeP, mulOk, lw_l, lw_c, lv_l, lv_c, lv_x, sv_l, sv_c, sv_x, sv_t, lw_i, lw_s, lw_t, lv_s, lv_t, lv_i, lv_n, add_ii, add_ss, add_tt, add_ll, add_lc, add_cl, add_cc, sub_ii, plus_ii, mul_ii, mul_li, fdv_ii, mod_ii, pow_ii, neg_i, sh_i, sh_s, sh_t, sh_l, sh_n, sh_b, sh_c, eq_nn, ne_nn, eq_ni, ne_ni, eq_in, ne_in, eq_nb, ne_nb, eq_bn, ne_bn, eq_ns, ne_ns, eq_sn, ne_sn, eq_ii, ne_ii, eq_bb, ne_bb, eq_ss, ne_ss, eq_is, ne_is, eq_si, ne_si, eq_bs, ne_bs, eq_sb, ne_sb, isn_n, non_n, isn_i, non_i, isn_b, non_b, isn_s, non_s, isn_t, non_t, isn_l, non_l, isn_c, non_c, isn_x, non_x, tru_n, tru_b, tru_i, tru_t, tru_l, notv_b, ix_t, ix_s, ix_l, ix_x, ix_c, ixl_c, sl_t, sl_s, sl_l, sl_c, rev_l, rev_c, len_t, len_l, len_x, len_s, len_c, list_t, list_l, list_x, list_c, tuple_t, tuple_l, tuple_c, int_i, int_b, abs_i, ord_s, isi_n, isi_b, isi_i, isi_s, isi_t, isi_l, isi_c, kindc, max_ii, min_ii, app_c, ext_c, set_c, sidx_ss, cm_ii, cm_ile, cm_igt, cm_ige, isl_l, isl_c, isl_s, iss_s, iss_l, b_ok, b_st, b_ex, o_ok, o_st, o_ex, c_ok, c_st, c_ex, fin_rt, fin_nx, fin_st, nx_nx, nx_rt, nx_bk, nx_ct, nx_ex, nx_st, e_seq, e_var, e_c, e_op, e_un, e_nil, e_cons, e_call, e_tup, e_lst, e_otup, e_olst, e_gd, e_asg, e_drop, e_ret, e_retN, e_next, e_brk, e_cont, e_ifs, e_setS, e_aug, e_augS, e_tru, e_bl, e_and, e_or, e_not, e_andV, e_orV, e_notV, e_if, e_chain, e_nop, e_part, e_sl, e_iSeq, e_iR1, e_iR2, rngOk_of, rngOk2_of, e_for, e_lc, e_yes, e_mt, e_mt2, e_join, e_put, e_fits, Tg.put, TgL.puts, startP, h1, hm, cut_tree0, hu]
/-! ### reading -/
theorem before_at : ∀ n : Nat, n < 5 → ((" !\"#$" : Str)).cps.toList[n]? = some (n + 32) := by decide +kernel
theorem before_len : ((" !\"#$" : Str)).length = 5 := by decide +kernel
theorem after_at : ∀ n : Nat, n < 89 → (("&'()*+,-./0123456789:;<=>?@ABCDEFGHIJKLMNOPQRSTUVWXYZ[\\]^_`abcdefghijklmnopqrstuvwxyz{|}~" : Str)).cps.toList[n]? = some (n + 38) := by decide +kernel
theorem after_len : (("&'()*+,-./0123456789:;<=>?@ABCDEFGHIJKLMNOPQRSTUVWXYZ[\\]^_`abcdefghijklmnopqrstuvwxyz{|}~" : Str)).length = 89 := by decide +kernel
theorem character_k (c : Int) (m : M) : f_character_of [.int c] m = .ok (if 32 ≤ c ∧ c ≤ 126 ∧ c ≠ 37 then .str ⟨#[c.toNat]⟩ else .non) m := by
  unfold f_character_of fnC fnF fb_character_of
  by_cases h1 : 32 ≤ c ∧ c < 37
  · obtain ⟨n, rfl⟩ : ∃ n : Nat, c = (n : Int) + 32 := ⟨(c - 32).toNat, by omega⟩
    have e1 : (32 : Int) ≤ n + 32 := by omega
    have e2 : (n : Int) + 32 < 37 := by omega
    have e3 : 32 ≤ (n : Int) + 32 ∧ (n : Int) + 32 ≤ 126 ∧ (n : Int) + 32 ≠ 37 := by omega
    have e4 : ((n : Int) + 32).toNat = n + 32 := by omega
    have e5 : (n : Int) < 5 := by omega
    rw [if_pos e3, e4]
    simp [mkL_f, mkL_t, wipeP, mulOk, lw_l, lw_c, lv_l, lv_c, lv_x, sv_l, sv_c, sv_x, sv_t, lw_i, lw_s, lw_t, lv_s, lv_t, lv_i, lv_n, add_ii, add_ss, add_tt, add_ll, add_lc, add_cl, add_cc, sub_ii, plus_ii, mul_ii, mul_li, fdv_ii, mod_ii, pow_ii, neg_i, sh_i, sh_s, sh_t, sh_l, sh_n, sh_b, sh_c, eq_nn, ne_nn, eq_ni, ne_ni, eq_in, ne_in, eq_nb, ne_nb, eq_bn, ne_bn, eq_ns, ne_ns, eq_sn, ne_sn, eq_ii, ne_ii, eq_bb, ne_bb, eq_ss, ne_ss, eq_is, ne_is, eq_si, ne_si, eq_bs, ne_bs, eq_sb, ne_sb, isn_n, non_n, isn_i, non_i, isn_b, non_b, isn_s, non_s, isn_t, non_t, isn_l, non_l, isn_c, non_c, isn_x, non_x, tru_n, tru_b, tru_i, tru_t, tru_l, notv_b, ix_t, ix_s, ix_l, ix_x, ix_c, ixl_c, sl_t, sl_s, sl_l, sl_c, rev_l, rev_c, len_t, len_l, len_x, len_s, len_c, list_t, list_l, list_x, list_c, tuple_t, tuple_l, tuple_c, int_i, int_b, abs_i, ord_s, isi_n, isi_b, isi_i, isi_s, isi_t, isi_l, isi_c, kindc, max_ii, min_ii, app_c, ext_c, set_c, sidx_ss, cm_ii, cm_ile, cm_igt, cm_ige, isl_l, isl_c, isl_s, iss_s, iss_l, b_ok, b_st, b_ex, o_ok, o_st, o_ex, c_ok, c_st, c_ex, fin_rt, fin_nx, fin_st, nx_nx, nx_rt, nx_bk, nx_ct, nx_ex, nx_st, e_seq, e_var, e_c, e_op, e_un, e_nil, e_cons, e_call, e_tup, e_lst, e_otup, e_olst, e_gd, e_asg, e_drop, e_ret, e_retN, e_next, e_brk, e_cont, e_ifs, e_setS, e_aug, e_augS, e_tru, e_bl, e_and, e_or, e_not, e_andV, e_orV, e_notV, e_if, e_chain, e_nop, e_part, e_sl, e_iSeq, e_iR1, e_iR2, rngOk_of, rngOk2_of, e_for, e_lc, e_yes, e_mt, e_mt2, e_join, e_put, e_fits, Tg.put, TgL.puts, startP, e1, e2, e5, before_len, atI_nat', before_at n (by omega), cut_tree0]
  · by_cases h2 : 37 < c ∧ c < 127
    · obtain ⟨n, rfl⟩ : ∃ n : Nat, c = (n : Int) + 38 := ⟨(c - 38).toNat, by omega⟩
      have e1 : (32 : Int) ≤ n + 38 := by omega
      have e2 : ¬ (n : Int) + 38 < 37 := by omega
      have e3 : 32 ≤ (n : Int) + 38 ∧ (n : Int) + 38 ≤ 126 ∧ (n : Int) + 38 ≠ 37 := by omega
      have e4 : ((n : Int) + 38).toNat = n + 38 := by omega
      have e6 : (37 : Int) < n + 38 := by omega
      have e7 : (n : Int) + 38 < 127 := by omega
      have e8 : (n : Int) < 89 := by omega
      rw [if_pos e3, e4]
      simp [mkL_f, mkL_t, wipeP, mulOk, lw_l, lw_c, lv_l, lv_c, lv_x, sv_l, sv_c, sv_x, sv_t, lw_i, lw_s, lw_t, lv_s, lv_t, lv_i, lv_n, add_ii, add_ss, add_tt, add_ll, add_lc, add_cl, add_cc, sub_ii, plus_ii, mul_ii, mul_li, fdv_ii, mod_ii, pow_ii, neg_i, sh_i, sh_s, sh_t, sh_l, sh_n, sh_b, sh_c, eq_nn, ne_nn, eq_ni, ne_ni, eq_in, ne_in, eq_nb, ne_nb, eq_bn, ne_bn, eq_ns, ne_ns, eq_sn, ne_sn, eq_ii, ne_ii, eq_bb, ne_bb, eq_ss, ne_ss, eq_is, ne_is, eq_si, ne_si, eq_bs, ne_bs, eq_sb, ne_sb, isn_n, non_n, isn_i, non_i, isn_b, non_b, isn_s, non_s, isn_t, non_t, isn_l, non_l, isn_c, non_c, isn_x, non_x, tru_n, tru_b, tru_i, tru_t, tru_l, notv_b, ix_t, ix_s, ix_l, ix_x, ix_c, ixl_c, sl_t, sl_s, sl_l, sl_c, rev_l, rev_c, len_t, len_l, len_x, len_s, len_c, list_t, list_l, list_x, list_c, tuple_t, tuple_l, tuple_c, int_i, int_b, abs_i, ord_s, isi_n, isi_b, isi_i, isi_s, isi_t, isi_l, isi_c, kindc, max_ii, min_ii, app_c, ext_c, set_c, sidx_ss, cm_ii, cm_ile, cm_igt, cm_ige, isl_l, isl_c, isl_s, iss_s, iss_l, b_ok, b_st, b_ex, o_ok, o_st, o_ex, c_ok, c_st, c_ex, fin_rt, fin_nx, fin_st, nx_nx, nx_rt, nx_bk, nx_ct, nx_ex, nx_st, e_seq, e_var, e_c, e_op, e_un, e_nil, e_cons, e_call, e_tup, e_lst, e_otup, e_olst, e_gd, e_asg, e_drop, e_ret, e_retN, e_next, e_brk, e_cont, e_ifs, e_setS, e_aug, e_augS, e_tru, e_bl, e_and, e_or, e_not, e_andV, e_orV, e_notV, e_if, e_chain, e_nop, e_part, e_sl, e_iSeq, e_iR1, e_iR2, rngOk_of, rngOk2_of, e_for, e_lc, e_yes, e_mt, e_mt2, e_join, e_put, e_fits, Tg.put, TgL.puts, startP, e1, e2, e6, e7, e8, after_len, atI_nat', after_at n (by omega), cut_tree0]
    · rw [if_neg (by omega)]
      have k1 : decide (32 ≤ c) = false ∨ decide (c < 37) = false := by
        rcases Int.lt_or_le c 32 with q | q
        · exact .inl (decide_eq_false (by omega))
        · exact .inr (decide_eq_false (by omega))
      have k2 : decide (37 < c) = false ∨ decide (c < 127) = false := by
        rcases Int.lt_or_le 37 c with q | q
        · exact .inr (decide_eq_false (by omega))
        · exact .inl (decide_eq_false (by omega))
      have e3 : (fBl (fChain (oCm .le) (oCm .lt) (fC (.int 32)) (fVar 0) (fC (.int 37)))) [some (.int c)] m = .ok false m := by
        rcases k1 with q | q
        · simp [mkL_f, mkL_t, wipeP, mulOk, lw_l, lw_c, lv_l, lv_c, lv_x, sv_l, sv_c, sv_x, sv_t, lw_i, lw_s, lw_t, lv_s, lv_t, lv_i, lv_n, add_ii, add_ss, add_tt, add_ll, add_lc, add_cl, add_cc, sub_ii, plus_ii, mul_ii, mul_li, fdv_ii, mod_ii, pow_ii, neg_i, sh_i, sh_s, sh_t, sh_l, sh_n, sh_b, sh_c, eq_nn, ne_nn, eq_ni, ne_ni, eq_in, ne_in, eq_nb, ne_nb, eq_bn, ne_bn, eq_ns, ne_ns, eq_sn, ne_sn, eq_ii, ne_ii, eq_bb, ne_bb, eq_ss, ne_ss, eq_is, ne_is, eq_si, ne_si, eq_bs, ne_bs, eq_sb, ne_sb, isn_n, non_n, isn_i, non_i, isn_b, non_b, isn_s, non_s, isn_t, non_t, isn_l, non_l, isn_c, non_c, isn_x, non_x, tru_n, tru_b, tru_i, tru_t, tru_l, notv_b, ix_t, ix_s, ix_l, ix_x, ix_c, ixl_c, sl_t, sl_s, sl_l, sl_c, rev_l, rev_c, len_t, len_l, len_x, len_s, len_c, list_t, list_l, list_x, list_c, tuple_t, tuple_l, tuple_c, int_i, int_b, abs_i, ord_s, isi_n, isi_b, isi_i, isi_s, isi_t, isi_l, isi_c, kindc, max_ii, min_ii, app_c, ext_c, set_c, sidx_ss, cm_ii, cm_ile, cm_igt, cm_ige, isl_l, isl_c, isl_s, iss_s, iss_l, b_ok, b_st, b_ex, o_ok, o_st, o_ex, c_ok, c_st, c_ex, fin_rt, fin_nx, fin_st, nx_nx, nx_rt, nx_bk, nx_ct, nx_ex, nx_st, e_seq, e_var, e_c, e_op, e_un, e_nil, e_cons, e_call, e_tup, e_lst, e_otup, e_olst, e_gd, e_asg, e_drop, e_ret, e_retN, e_next, e_brk, e_cont, e_ifs, e_setS, e_aug, e_augS, e_tru, e_bl, e_and, e_or, e_not, e_andV, e_orV, e_notV, e_if, e_chain, e_nop, e_part, e_sl, e_iSeq, e_iR1, e_iR2, rngOk_of, rngOk2_of, e_for, e_lc, e_yes, e_mt, e_mt2, e_join, e_put, e_fits, Tg.put, TgL.puts, q]
        · cases hq : decide (32 ≤ c) <;> simp [mkL_f, mkL_t, wipeP, mulOk, lw_l, lw_c, lv_l, lv_c, lv_x, sv_l, sv_c, sv_x, sv_t, lw_i, lw_s, lw_t, lv_s, lv_t, lv_i, lv_n, add_ii, add_ss, add_tt, add_ll, add_lc, add_cl, add_cc, sub_ii, plus_ii, mul_ii, mul_li, fdv_ii, mod_ii, pow_ii, neg_i, sh_i, sh_s, sh_t, sh_l, sh_n, sh_b, sh_c, eq_nn, ne_nn, eq_ni, ne_ni, eq_in, ne_in, eq_nb, ne_nb, eq_bn, ne_bn, eq_ns, ne_ns, eq_sn, ne_sn, eq_ii, ne_ii, eq_bb, ne_bb, eq_ss, ne_ss, eq_is, ne_is, eq_si, ne_si, eq_bs, ne_bs, eq_sb, ne_sb, isn_n, non_n, isn_i, non_i, isn_b, non_b, isn_s, non_s, isn_t, non_t, isn_l, non_l, isn_c, non_c, isn_x, non_x, tru_n, tru_b, tru_i, tru_t, tru_l, notv_b, ix_t, ix_s, ix_l, ix_x, ix_c, ixl_c, sl_t, sl_s, sl_l, sl_c, rev_l, rev_c, len_t, len_l, len_x, len_s, len_c, list_t, list_l, list_x, list_c, tuple_t, tuple_l, tuple_c, int_i, int_b, abs_i, ord_s, isi_n, isi_b, isi_i, isi_s, isi_t, isi_l, isi_c, kindc, max_ii, min_ii, app_c, ext_c, set_c, sidx_ss, cm_ii, cm_ile, cm_igt, cm_ige, isl_l, isl_c, isl_s, iss_s, iss_l, b_ok, b_st, b_ex, o_ok, o_st, o_ex, c_ok, c_st, c_ex, fin_rt, fin_nx, fin_st, nx_nx, nx_rt, nx_bk, nx_ct, nx_ex, nx_st, e_seq, e_var, e_c, e_op, e_un, e_nil, e_cons, e_call, e_tup, e_lst, e_otup, e_olst, e_gd, e_asg, e_drop, e_ret, e_retN, e_next, e_brk, e_cont, e_ifs, e_setS, e_aug, e_augS, e_tru, e_bl, e_and, e_or, e_not, e_andV, e_orV, e_notV, e_if, e_chain, e_nop, e_part, e_sl, e_iSeq, e_iR1, e_iR2, rngOk_of, rngOk2_of, e_for, e_lc, e_yes, e_mt, e_mt2, e_join, e_put, e_fits, Tg.put, TgL.puts, q, hq]
      have e4 : (fBl (fChain (oCm .lt) (oCm .lt) (fC (.int 37)) (fVar 0) (fC (.int 127)))) [some (.int c)] m = .ok false m := by
        rcases k2 with q | q
        · simp [mkL_f, mkL_t, wipeP, mulOk, lw_l, lw_c, lv_l, lv_c, lv_x, sv_l, sv_c, sv_x, sv_t, lw_i, lw_s, lw_t, lv_s, lv_t, lv_i, lv_n, add_ii, add_ss, add_tt, add_ll, add_lc, add_cl, add_cc, sub_ii, plus_ii, mul_ii, mul_li, fdv_ii, mod_ii, pow_ii, neg_i, sh_i, sh_s, sh_t, sh_l, sh_n, sh_b, sh_c, eq_nn, ne_nn, eq_ni, ne_ni, eq_in, ne_in, eq_nb, ne_nb, eq_bn, ne_bn, eq_ns, ne_ns, eq_sn, ne_sn, eq_ii, ne_ii, eq_bb, ne_bb, eq_ss, ne_ss, eq_is, ne_is, eq_si, ne_si, eq_bs, ne_bs, eq_sb, ne_sb, isn_n, non_n, isn_i, non_i, isn_b, non_b, isn_s, non_s, isn_t, non_t, isn_l, non_l, isn_c, non_c, isn_x, non_x, tru_n, tru_b, tru_i, tru_t, tru_l, notv_b, ix_t, ix_s, ix_l, ix_x, ix_c, ixl_c, sl_t, sl_s, sl_l, sl_c, rev_l, rev_c, len_t, len_l, len_x, len_s, len_c, list_t, list_l, list_x, list_c, tuple_t, tuple_l, tuple_c, int_i, int_b, abs_i, ord_s, isi_n, isi_b, isi_i, isi_s, isi_t, isi_l, isi_c, kindc, max_ii, min_ii, app_c, ext_c, set_c, sidx_ss, cm_ii, cm_ile, cm_igt, cm_ige, isl_l, isl_c, isl_s, iss_s, iss_l, b_ok, b_st, b_ex, o_ok, o_st, o_ex, c_ok, c_st, c_ex, fin_rt, fin_nx, fin_st, nx_nx, nx_rt, nx_bk, nx_ct, nx_ex, nx_st, e_seq, e_var, e_c, e_op, e_un, e_nil, e_cons, e_call, e_tup, e_lst, e_otup, e_olst, e_gd, e_asg, e_drop, e_ret, e_retN, e_next, e_brk, e_cont, e_ifs, e_setS, e_aug, e_augS, e_tru, e_bl, e_and, e_or, e_not, e_andV, e_orV, e_notV, e_if, e_chain, e_nop, e_part, e_sl, e_iSeq, e_iR1, e_iR2, rngOk_of, rngOk2_of, e_for, e_lc, e_yes, e_mt, e_mt2, e_join, e_put, e_fits, Tg.put, TgL.puts, q]
        · cases hq : decide (37 < c) <;> simp [mkL_f, mkL_t, wipeP, mulOk, lw_l, lw_c, lv_l, lv_c, lv_x, sv_l, sv_c, sv_x, sv_t, lw_i, lw_s, lw_t, lv_s, lv_t, lv_i, lv_n, add_ii, add_ss, add_tt, add_ll, add_lc, add_cl, add_cc, sub_ii, plus_ii, mul_ii, mul_li, fdv_ii, mod_ii, pow_ii, neg_i, sh_i, sh_s, sh_t, sh_l, sh_n, sh_b, sh_c, eq_nn, ne_nn, eq_ni, ne_ni, eq_in, ne_in, eq_nb, ne_nb, eq_bn, ne_bn, eq_ns, ne_ns, eq_sn, ne_sn, eq_ii, ne_ii, eq_bb, ne_bb, eq_ss, ne_ss, eq_is, ne_is, eq_si, ne_si, eq_bs, ne_bs, eq_sb, ne_sb, isn_n, non_n, isn_i, non_i, isn_b, non_b, isn_s, non_s, isn_t, non_t, isn_l, non_l, isn_c, non_c, isn_x, non_x, tru_n, tru_b, tru_i, tru_t, tru_l, notv_b, ix_t, ix_s, ix_l, ix_x, ix_c, ixl_c, sl_t, sl_s, sl_l, sl_c, rev_l, rev_c, len_t, len_l, len_x, len_s, len_c, list_t, list_l, list_x, list_c, tuple_t, tuple_l, tuple_c, int_i, int_b, abs_i, ord_s, isi_n, isi_b, isi_i, isi_s, isi_t, isi_l, isi_c, kindc, max_ii, min_ii, app_c, ext_c, set_c, sidx_ss, cm_ii, cm_ile, cm_igt, cm_ige, isl_l, isl_c, isl_s, iss_s, iss_l, b_ok, b_st, b_ex, o_ok, o_st, o_ex, c_ok, c_st, c_ex, fin_rt, fin_nx, fin_st, nx_nx, nx_rt, nx_bk, nx_ct, nx_ex, nx_st, e_seq, e_var, e_c, e_op, e_un, e_nil, e_cons, e_call, e_tup, e_lst, e_otup, e_olst, e_gd, e_asg, e_drop, e_ret, e_retN, e_next, e_brk, e_cont, e_ifs, e_setS, e_aug, e_augS, e_tru, e_bl, e_and, e_or, e_not, e_andV, e_orV, e_notV, e_if, e_chain, e_nop, e_part, e_sl, e_iSeq, e_iR1, e_iR2, rngOk_of, rngOk2_of, e_for, e_lc, e_yes, e_mt, e_mt2, e_join, e_put, e_fits, Tg.put, TgL.puts, q, hq]
      show (finish true m (fSeq _ _ [some (.int c)] m)).calm = _
      rw [e_seq, e_ifF e3, e_next, nx_nx, e_seq, e_ifF e4]
      simp [mkL_f, mkL_t, wipeP, mulOk, lw_l, lw_c, lv_l, lv_c, lv_x, sv_l, sv_c, sv_x, sv_t, lw_i, lw_s, lw_t, lv_s, lv_t, lv_i, lv_n, add_ii, add_ss, add_tt, add_ll, add_lc, add_cl, add_cc, sub_ii, plus_ii, mul_ii, mul_li, fdv_ii, mod_ii, pow_ii, neg_i, sh_i, sh_s, sh_t, sh_l, sh_n, sh_b, sh_c, eq_nn, ne_nn, eq_ni, ne_ni, eq_in, ne_in, eq_nb, ne_nb, eq_bn, ne_bn, eq_ns, ne_ns, eq_sn, ne_sn, eq_ii, ne_ii, eq_bb, ne_bb, eq_ss, ne_ss, eq_is, ne_is, eq_si, ne_si, eq_bs, ne_bs, eq_sb, ne_sb, isn_n, non_n, isn_i, non_i, isn_b, non_b, isn_s, non_s, isn_t, non_t, isn_l, non_l, isn_c, non_c, isn_x, non_x, tru_n, tru_b, tru_i, tru_t, tru_l, notv_b, ix_t, ix_s, ix_l, ix_x, ix_c, ixl_c, sl_t, sl_s, sl_l, sl_c, rev_l, rev_c, len_t, len_l, len_x, len_s, len_c, list_t, list_l, list_x, list_c, tuple_t, tuple_l, tuple_c, int_i, int_b, abs_i, ord_s, isi_n, isi_b, isi_i, isi_s, isi_t, isi_l, isi_c, kindc, max_ii, min_ii, app_c, ext_c, set_c, sidx_ss, cm_ii, cm_ile, cm_igt, cm_ige, isl_l, isl_c, isl_s, iss_s, iss_l, b_ok, b_st, b_ex, o_ok, o_st, o_ex, c_ok, c_st, c_ex, fin_rt, fin_nx, fin_st, nx_nx, nx_rt, nx_bk, nx_ct, nx_ex, nx_st, e_seq, e_var, e_c, e_op, e_un, e_nil, e_cons, e_call, e_tup, e_lst, e_otup, e_olst, e_gd, e_asg, e_drop, e_ret, e_retN, e_next, e_brk, e_cont, e_ifs, e_setS, e_aug, e_augS, e_tru, e_bl, e_and, e_or, e_not, e_andV, e_orV, e_notV, e_if, e_chain, e_nop, e_part, e_sl, e_iSeq, e_iR1, e_iR2, rngOk_of, rngOk2_of, e_for, e_lc, e_yes, e_mt, e_mt2, e_join, e_put, e_fits, Tg.put, TgL.puts, cut_tree0]
/-! ### the integer, the text behind a place -/
def foldB (l : List Int) : Int := l.foldl (fun a b => 256 * a + b) 0
def inB (n : Int) : Bool := decide (-1000000000 ≤ n ∧ n ≤ 1000000000)
def intAt (l : List Int) : Option Int := if l.length < 5 then none else if inB (foldB (l.take 5) - 549755813888) = true then some (foldB (l.take 5) - 549755813888) else none
def optP (f : α → P) : Option α → P
  | some x => f x
  | none => .non
theorem optP_s {α : Type} {f : α → P} {x : α} : optP f (some x) = f x := rfl
theorem optP_n {α : Type} {f : α → P} : optP f none = .non := rfl
theorem cut_map {α β : Type} (f : α → β) (l : List α) (lo hi : Option Int) : cutL (l.map f) lo hi = (cutL l lo hi).map f := by
  unfold cutL
  rw [List.length_map, List.map_take, List.map_drop]
theorem cut_nat {α : Type} (l : List α) (a b : Nat) : cutL l (some (a : Int)) (some ((a : Int) + b)) = (l.drop a).take b := by
  unfold cutL HT.sIx
  simp only [show ¬ ((a : Int) < 0) by omega, if_false, show ¬ ((a : Int) + b < 0) by omega]
  have h1 : ((a : Int)).toNat = a := by omega
  have h2 : ((a : Int) + b).toNat = a + b := by omega
  rw [h1, h2]
  by_cases h : a ≤ l.length
  · rw [Nat.min_eq_left h]
    by_cases h3 : a + b ≤ l.length
    · rw [Nat.min_eq_left h3, Nat.add_sub_cancel_left]
    · rw [Nat.min_eq_right (by omega)]
      rw [List.take_of_length_le (by rw [List.length_drop]; omega), List.take_of_length_le (by rw [List.length_drop]; omega)]
  · have e1 : min a l.length = l.length := Nat.min_eq_right (by omega)
    rw [e1, List.drop_length, List.take_nil, List.drop_of_length_le (by omega), List.take_nil]
theorem integer_at_k (k : List Int) (a : Nat) (m : M) : f_integer_at [ip k, .int a] m = .ok (optP .int (intAt (k.drop a))) m := by
  unfold f_integer_at fnC fnF fb_integer_at
  have hc := cut_nat (k.map P.int) a 5
  have h5 : (((a : Nat) : Int) + ((5 : Nat) : Int)) = (a : Int) + 5 := rfl
  rw [h5, ← List.map_drop, ← List.map_take] at hc
  unfold intAt
  by_cases h : (k.drop a).length < 5
  · have e1 : ((((k.drop a).take 5).length : Nat) : Int) < 5 := by rw [List.length_take]; omega
    rw [if_pos h]
    simp only [List.length_take, List.length_drop] at e1
    simp [mkL_f, mkL_t, wipeP, mulOk, lw_l, lw_c, lv_l, lv_c, lv_x, sv_l, sv_c, sv_x, sv_t, lw_i, lw_s, lw_t, lv_s, lv_t, lv_i, lv_n, add_ii, add_ss, add_tt, add_ll, add_lc, add_cl, add_cc, sub_ii, plus_ii, mul_ii, mul_li, fdv_ii, mod_ii, pow_ii, neg_i, sh_i, sh_s, sh_t, sh_l, sh_n, sh_b, sh_c, eq_nn, ne_nn, eq_ni, ne_ni, eq_in, ne_in, eq_nb, ne_nb, eq_bn, ne_bn, eq_ns, ne_ns, eq_sn, ne_sn, eq_ii, ne_ii, eq_bb, ne_bb, eq_ss, ne_ss, eq_is, ne_is, eq_si, ne_si, eq_bs, ne_bs, eq_sb, ne_sb, isn_n, non_n, isn_i, non_i, isn_b, non_b, isn_s, non_s, isn_t, non_t, isn_l, non_l, isn_c, non_c, isn_x, non_x, tru_n, tru_b, tru_i, tru_t, tru_l, notv_b, ix_t, ix_s, ix_l, ix_x, ix_c, ixl_c, sl_t, sl_s, sl_l, sl_c, rev_l, rev_c, len_t, len_l, len_x, len_s, len_c, list_t, list_l, list_x, list_c, tuple_t, tuple_l, tuple_c, int_i, int_b, abs_i, ord_s, isi_n, isi_b, isi_i, isi_s, isi_t, isi_l, isi_c, kindc, max_ii, min_ii, app_c, ext_c, set_c, sidx_ss, cm_ii, cm_ile, cm_igt, cm_ige, isl_l, isl_c, isl_s, iss_s, iss_l, b_ok, b_st, b_ex, o_ok, o_st, o_ex, c_ok, c_st, c_ex, fin_rt, fin_nx, fin_st, nx_nx, nx_rt, nx_bk, nx_ct, nx_ex, nx_st, e_seq, e_var, e_c, e_op, e_un, e_nil, e_cons, e_call, e_tup, e_lst, e_otup, e_olst, e_gd, e_asg, e_drop, e_ret, e_retN, e_next, e_brk, e_cont, e_ifs, e_setS, e_aug, e_augS, e_tru, e_bl, e_and, e_or, e_not, e_andV, e_orV, e_notV, e_if, e_chain, e_nop, e_part, e_sl, e_iSeq, e_iR1, e_iR2, rngOk_of, rngOk2_of, e_for, e_lc, e_yes, e_mt, e_mt2, e_join, e_put, e_fits, Tg.put, TgL.puts, startP, ip, hc, e1, optP_s, optP_n, cut_tree0]
  · rw [if_neg h]
    generalize hs : (k.drop a).take 5 = s at *
    have hl : s.length = 5 := by rw [← hs, List.length_take]; omega
    match s, hl with
    | [x0, x1, x2, x3, x4], _ =>
      simp [mkL_f, mkL_t, wipeP, mulOk, lw_l, lw_c, lv_l, lv_c, lv_x, sv_l, sv_c, sv_x, sv_t, lw_i, lw_s, lw_t, lv_s, lv_t, lv_i, lv_n, add_ii, add_ss, add_tt, add_ll, add_lc, add_cl, add_cc, sub_ii, plus_ii, mul_ii, mul_li, fdv_ii, mod_ii, pow_ii, neg_i, sh_i, sh_s, sh_t, sh_l, sh_n, sh_b, sh_c, eq_nn, ne_nn, eq_ni, ne_ni, eq_in, ne_in, eq_nb, ne_nb, eq_bn, ne_bn, eq_ns, ne_ns, eq_sn, ne_sn, eq_ii, ne_ii, eq_bb, ne_bb, eq_ss, ne_ss, eq_is, ne_is, eq_si, ne_si, eq_bs, ne_bs, eq_sb, ne_sb, isn_n, non_n, isn_i, non_i, isn_b, non_b, isn_s, non_s, isn_t, non_t, isn_l, non_l, isn_c, non_c, isn_x, non_x, tru_n, tru_b, tru_i, tru_t, tru_l, notv_b, ix_t, ix_s, ix_l, ix_x, ix_c, ixl_c, sl_t, sl_s, sl_l, sl_c, rev_l, rev_c, len_t, len_l, len_x, len_s, len_c, list_t, list_l, list_x, list_c, tuple_t, tuple_l, tuple_c, int_i, int_b, abs_i, ord_s, isi_n, isi_b, isi_i, isi_s, isi_t, isi_l, isi_c, kindc, max_ii, min_ii, app_c, ext_c, set_c, sidx_ss, cm_ii, cm_ile, cm_igt, cm_ige, isl_l, isl_c, isl_s, iss_s, iss_l, b_ok, b_st, b_ex, o_ok, o_st, o_ex, c_ok, c_st, c_ex, fin_rt, fin_nx, fin_st, nx_nx, nx_rt, nx_bk, nx_ct, nx_ex, nx_st, e_seq, e_var, e_c, e_op, e_un, e_nil, e_cons, e_call, e_tup, e_lst, e_otup, e_olst, e_gd, e_asg, e_drop, e_ret, e_retN, e_next, e_brk, e_cont, e_ifs, e_setS, e_aug, e_augS, e_tru, e_bl, e_and, e_or, e_not, e_andV, e_orV, e_notV, e_if, e_chain, e_nop, e_part, e_sl, e_iSeq, e_iR1, e_iR2, rngOk_of, rngOk2_of, e_for, e_lc, e_yes, e_mt, e_mt2, e_join, e_put, e_fits, Tg.put, TgL.puts, startP, ip, hc, forG_cons, forG_nil, foldB, inB]
      generalize hz : 256 * (256 * (256 * (256 * x0 + x1) + x2) + x3) + x4 - 549755813888 = z
      cases h1 : decide (-1000000000 ≤ z) <;> cases h2 : decide (z ≤ 1000000000) <;> simp at h1 h2 <;> simp [mkL_f, mkL_t, wipeP, mulOk, lw_l, lw_c, lv_l, lv_c, lv_x, sv_l, sv_c, sv_x, sv_t, lw_i, lw_s, lw_t, lv_s, lv_t, lv_i, lv_n, add_ii, add_ss, add_tt, add_ll, add_lc, add_cl, add_cc, sub_ii, plus_ii, mul_ii, mul_li, fdv_ii, mod_ii, pow_ii, neg_i, sh_i, sh_s, sh_t, sh_l, sh_n, sh_b, sh_c, eq_nn, ne_nn, eq_ni, ne_ni, eq_in, ne_in, eq_nb, ne_nb, eq_bn, ne_bn, eq_ns, ne_ns, eq_sn, ne_sn, eq_ii, ne_ii, eq_bb, ne_bb, eq_ss, ne_ss, eq_is, ne_is, eq_si, ne_si, eq_bs, ne_bs, eq_sb, ne_sb, isn_n, non_n, isn_i, non_i, isn_b, non_b, isn_s, non_s, isn_t, non_t, isn_l, non_l, isn_c, non_c, isn_x, non_x, tru_n, tru_b, tru_i, tru_t, tru_l, notv_b, ix_t, ix_s, ix_l, ix_x, ix_c, ixl_c, sl_t, sl_s, sl_l, sl_c, rev_l, rev_c, len_t, len_l, len_x, len_s, len_c, list_t, list_l, list_x, list_c, tuple_t, tuple_l, tuple_c, int_i, int_b, abs_i, ord_s, isi_n, isi_b, isi_i, isi_s, isi_t, isi_l, isi_c, kindc, max_ii, min_ii, app_c, ext_c, set_c, sidx_ss, cm_ii, cm_ile, cm_igt, cm_ige, isl_l, isl_c, isl_s, iss_s, iss_l, b_ok, b_st, b_ex, o_ok, o_st, o_ex, c_ok, c_st, c_ex, fin_rt, fin_nx, fin_st, nx_nx, nx_rt, nx_bk, nx_ct, nx_ex, nx_st, e_seq, e_var, e_c, e_op, e_un, e_nil, e_cons, e_call, e_tup, e_lst, e_otup, e_olst, e_gd, e_asg, e_drop, e_ret, e_retN, e_next, e_brk, e_cont, e_ifs, e_setS, e_aug, e_augS, e_tru, e_bl, e_and, e_or, e_not, e_andV, e_orV, e_notV, e_if, e_chain, e_nop, e_part, e_sl, e_iSeq, e_iR1, e_iR2, rngOk_of, rngOk2_of, e_for, e_lc, e_yes, e_mt, e_mt2, e_join, e_put, e_fits, Tg.put, TgL.puts, h1, h2, optP_s, optP_n, cut_tree0, hz, Int.not_le.mpr, Int.not_le, Int.not_lt]
/-- the text whose codes stand at the front -/
def txtAt : Nat → List Nat → List Int → Option (List Nat)
  | 0, _, _ => none
  | _ + 1, _, [] => none
  | n + 1, acc, c :: r => if c = 0 then some acc else if 32 ≤ c ∧ c ≤ 126 ∧ c ≠ 37 then txtAt n (acc ++ [c.toNat]) r else none
theorem strL_app (x : List Nat) (c : Nat) : strL x ++ (⟨#[c]⟩ : Str) = strL (x ++ [c]) := by
  show Str.append _ _ = _
  unfold Str.append strL
  simp
theorem text_at_k (k : List Int) (a : Nat) (m : M) : f_text_at [ip k, .int a] m = .ok (optP (fun x => .str (strL x)) (txtAt 7 [] (k.drop a))) m := by
  have loop : ∀ (n : Nat) (l : List Int) (acc : List Nat) (o1 o2 : Option P), acc.length + n ≤ 100 →
      (forG (.name 3) (fSeq (fIfS (fBl (fOp oEq (fVar 3) (fC (.int 0)))) (fRet (fVar 2)) fNext)
  (fSeq (fAsg (.name 4) (fCall (gd 1 f_character_of) (fCons (fVar 3) fNil)))
  (fSeq (fIfS (fBl (fOp oIsN (fVar 4) (fC .non))) (fRet (fC .non)) fNext)
  (fAsg (.name 2) (fOp (oAdd false) (fVar 2) (fVar 4)))))) [] ((l.take n).map .int) [some (ip k), some (.int a), some (.str (strL acc)), o1, o2] m).next (fRet (fC .non)) = .rt (optP (fun x => .str (strL x)) (txtAt n acc l)) m := by
    intro n
    induction n with
    | zero => intro l acc o1 o2 _; simp [forG_nil, mkL_f, mkL_t, wipeP, mulOk, lw_l, lw_c, lv_l, lv_c, lv_x, sv_l, sv_c, sv_x, sv_t, lw_i, lw_s, lw_t, lv_s, lv_t, lv_i, lv_n, add_ii, add_ss, add_tt, add_ll, add_lc, add_cl, add_cc, sub_ii, plus_ii, mul_ii, mul_li, fdv_ii, mod_ii, pow_ii, neg_i, sh_i, sh_s, sh_t, sh_l, sh_n, sh_b, sh_c, eq_nn, ne_nn, eq_ni, ne_ni, eq_in, ne_in, eq_nb, ne_nb, eq_bn, ne_bn, eq_ns, ne_ns, eq_sn, ne_sn, eq_ii, ne_ii, eq_bb, ne_bb, eq_ss, ne_ss, eq_is, ne_is, eq_si, ne_si, eq_bs, ne_bs, eq_sb, ne_sb, isn_n, non_n, isn_i, non_i, isn_b, non_b, isn_s, non_s, isn_t, non_t, isn_l, non_l, isn_c, non_c, isn_x, non_x, tru_n, tru_b, tru_i, tru_t, tru_l, notv_b, ix_t, ix_s, ix_l, ix_x, ix_c, ixl_c, sl_t, sl_s, sl_l, sl_c, rev_l, rev_c, len_t, len_l, len_x, len_s, len_c, list_t, list_l, list_x, list_c, tuple_t, tuple_l, tuple_c, int_i, int_b, abs_i, ord_s, isi_n, isi_b, isi_i, isi_s, isi_t, isi_l, isi_c, kindc, max_ii, min_ii, app_c, ext_c, set_c, sidx_ss, cm_ii, cm_ile, cm_igt, cm_ige, isl_l, isl_c, isl_s, iss_s, iss_l, b_ok, b_st, b_ex, o_ok, o_st, o_ex, c_ok, c_st, c_ex, fin_rt, fin_nx, fin_st, nx_nx, nx_rt, nx_bk, nx_ct, nx_ex, nx_st, e_seq, e_var, e_c, e_op, e_un, e_nil, e_cons, e_call, e_tup, e_lst, e_otup, e_olst, e_gd, e_asg, e_drop, e_ret, e_retN, e_next, e_brk, e_cont, e_ifs, e_setS, e_aug, e_augS, e_tru, e_bl, e_and, e_or, e_not, e_andV, e_orV, e_notV, e_if, e_chain, e_nop, e_part, e_sl, e_iSeq, e_iR1, e_iR2, rngOk_of, rngOk2_of, e_for, e_lc, e_yes, e_mt, e_mt2, e_join, e_put, e_fits, Tg.put, TgL.puts, txtAt, optP_s, optP_n]
    | succ n ih =>
      intro l acc o1 o2 hl
      cases l with
      | nil => simp [forG_nil, mkL_f, mkL_t, wipeP, mulOk, lw_l, lw_c, lv_l, lv_c, lv_x, sv_l, sv_c, sv_x, sv_t, lw_i, lw_s, lw_t, lv_s, lv_t, lv_i, lv_n, add_ii, add_ss, add_tt, add_ll, add_lc, add_cl, add_cc, sub_ii, plus_ii, mul_ii, mul_li, fdv_ii, mod_ii, pow_ii, neg_i, sh_i, sh_s, sh_t, sh_l, sh_n, sh_b, sh_c, eq_nn, ne_nn, eq_ni, ne_ni, eq_in, ne_in, eq_nb, ne_nb, eq_bn, ne_bn, eq_ns, ne_ns, eq_sn, ne_sn, eq_ii, ne_ii, eq_bb, ne_bb, eq_ss, ne_ss, eq_is, ne_is, eq_si, ne_si, eq_bs, ne_bs, eq_sb, ne_sb, isn_n, non_n, isn_i, non_i, isn_b, non_b, isn_s, non_s, isn_t, non_t, isn_l, non_l, isn_c, non_c, isn_x, non_x, tru_n, tru_b, tru_i, tru_t, tru_l, notv_b, ix_t, ix_s, ix_l, ix_x, ix_c, ixl_c, sl_t, sl_s, sl_l, sl_c, rev_l, rev_c, len_t, len_l, len_x, len_s, len_c, list_t, list_l, list_x, list_c, tuple_t, tuple_l, tuple_c, int_i, int_b, abs_i, ord_s, isi_n, isi_b, isi_i, isi_s, isi_t, isi_l, isi_c, kindc, max_ii, min_ii, app_c, ext_c, set_c, sidx_ss, cm_ii, cm_ile, cm_igt, cm_ige, isl_l, isl_c, isl_s, iss_s, iss_l, b_ok, b_st, b_ex, o_ok, o_st, o_ex, c_ok, c_st, c_ex, fin_rt, fin_nx, fin_st, nx_nx, nx_rt, nx_bk, nx_ct, nx_ex, nx_st, e_seq, e_var, e_c, e_op, e_un, e_nil, e_cons, e_call, e_tup, e_lst, e_otup, e_olst, e_gd, e_asg, e_drop, e_ret, e_retN, e_next, e_brk, e_cont, e_ifs, e_setS, e_aug, e_augS, e_tru, e_bl, e_and, e_or, e_not, e_andV, e_orV, e_notV, e_if, e_chain, e_nop, e_part, e_sl, e_iSeq, e_iR1, e_iR2, rngOk_of, rngOk2_of, e_for, e_lc, e_yes, e_mt, e_mt2, e_join, e_put, e_fits, Tg.put, TgL.puts, txtAt, optP_s, optP_n]
      | cons c r =>
        rw [List.take_succ_cons, List.map_cons, forG_cons]
        by_cases h0 : c = 0
        · simp [mkL_f, mkL_t, wipeP, mulOk, lw_l, lw_c, lv_l, lv_c, lv_x, sv_l, sv_c, sv_x, sv_t, lw_i, lw_s, lw_t, lv_s, lv_t, lv_i, lv_n, add_ii, add_ss, add_tt, add_ll, add_lc, add_cl, add_cc, sub_ii, plus_ii, mul_ii, mul_li, fdv_ii, mod_ii, pow_ii, neg_i, sh_i, sh_s, sh_t, sh_l, sh_n, sh_b, sh_c, eq_nn, ne_nn, eq_ni, ne_ni, eq_in, ne_in, eq_nb, ne_nb, eq_bn, ne_bn, eq_ns, ne_ns, eq_sn, ne_sn, eq_ii, ne_ii, eq_bb, ne_bb, eq_ss, ne_ss, eq_is, ne_is, eq_si, ne_si, eq_bs, ne_bs, eq_sb, ne_sb, isn_n, non_n, isn_i, non_i, isn_b, non_b, isn_s, non_s, isn_t, non_t, isn_l, non_l, isn_c, non_c, isn_x, non_x, tru_n, tru_b, tru_i, tru_t, tru_l, notv_b, ix_t, ix_s, ix_l, ix_x, ix_c, ixl_c, sl_t, sl_s, sl_l, sl_c, rev_l, rev_c, len_t, len_l, len_x, len_s, len_c, list_t, list_l, list_x, list_c, tuple_t, tuple_l, tuple_c, int_i, int_b, abs_i, ord_s, isi_n, isi_b, isi_i, isi_s, isi_t, isi_l, isi_c, kindc, max_ii, min_ii, app_c, ext_c, set_c, sidx_ss, cm_ii, cm_ile, cm_igt, cm_ige, isl_l, isl_c, isl_s, iss_s, iss_l, b_ok, b_st, b_ex, o_ok, o_st, o_ex, c_ok, c_st, c_ex, fin_rt, fin_nx, fin_st, nx_nx, nx_rt, nx_bk, nx_ct, nx_ex, nx_st, e_seq, e_var, e_c, e_op, e_un, e_nil, e_cons, e_call, e_tup, e_lst, e_otup, e_olst, e_gd, e_asg, e_drop, e_ret, e_retN, e_next, e_brk, e_cont, e_ifs, e_setS, e_aug, e_augS, e_tru, e_bl, e_and, e_or, e_not, e_andV, e_orV, e_notV, e_if, e_chain, e_nop, e_part, e_sl, e_iSeq, e_iR1, e_iR2, rngOk_of, rngOk2_of, e_for, e_lc, e_yes, e_mt, e_mt2, e_join, e_put, e_fits, Tg.put, TgL.puts, txtAt, h0, optP_s, optP_n]
        · by_cases h1 : 32 ≤ c ∧ c ≤ 126 ∧ c ≠ 37
          · have h2 : (strL acc).length + (⟨#[c.toNat]⟩ : Str).length ≤ 100000 := by rw [strL_len]; simp [Str.length]; omega
            have := ih r (acc ++ [c.toNat]) (some (.int c)) (some (.str ⟨#[c.toNat]⟩)) (by simp; omega)
            simp [mkL_f, mkL_t, wipeP, mulOk, lw_l, lw_c, lv_l, lv_c, lv_x, sv_l, sv_c, sv_x, sv_t, lw_i, lw_s, lw_t, lv_s, lv_t, lv_i, lv_n, add_ii, add_ss, add_tt, add_ll, add_lc, add_cl, add_cc, sub_ii, plus_ii, mul_ii, mul_li, fdv_ii, mod_ii, pow_ii, neg_i, sh_i, sh_s, sh_t, sh_l, sh_n, sh_b, sh_c, eq_nn, ne_nn, eq_ni, ne_ni, eq_in, ne_in, eq_nb, ne_nb, eq_bn, ne_bn, eq_ns, ne_ns, eq_sn, ne_sn, eq_ii, ne_ii, eq_bb, ne_bb, eq_ss, ne_ss, eq_is, ne_is, eq_si, ne_si, eq_bs, ne_bs, eq_sb, ne_sb, isn_n, non_n, isn_i, non_i, isn_b, non_b, isn_s, non_s, isn_t, non_t, isn_l, non_l, isn_c, non_c, isn_x, non_x, tru_n, tru_b, tru_i, tru_t, tru_l, notv_b, ix_t, ix_s, ix_l, ix_x, ix_c, ixl_c, sl_t, sl_s, sl_l, sl_c, rev_l, rev_c, len_t, len_l, len_x, len_s, len_c, list_t, list_l, list_x, list_c, tuple_t, tuple_l, tuple_c, int_i, int_b, abs_i, ord_s, isi_n, isi_b, isi_i, isi_s, isi_t, isi_l, isi_c, kindc, max_ii, min_ii, app_c, ext_c, set_c, sidx_ss, cm_ii, cm_ile, cm_igt, cm_ige, isl_l, isl_c, isl_s, iss_s, iss_l, b_ok, b_st, b_ex, o_ok, o_st, o_ex, c_ok, c_st, c_ex, fin_rt, fin_nx, fin_st, nx_nx, nx_rt, nx_bk, nx_ct, nx_ex, nx_st, e_seq, e_var, e_c, e_op, e_un, e_nil, e_cons, e_call, e_tup, e_lst, e_otup, e_olst, e_gd, e_asg, e_drop, e_ret, e_retN, e_next, e_brk, e_cont, e_ifs, e_setS, e_aug, e_augS, e_tru, e_bl, e_and, e_or, e_not, e_andV, e_orV, e_notV, e_if, e_chain, e_nop, e_part, e_sl, e_iSeq, e_iR1, e_iR2, rngOk_of, rngOk2_of, e_for, e_lc, e_yes, e_mt, e_mt2, e_join, e_put, e_fits, Tg.put, TgL.puts, txtAt, h0, h1, character_k, h2, strL_app]
            simpa using this
          · simp [mkL_f, mkL_t, wipeP, mulOk, lw_l, lw_c, lv_l, lv_c, lv_x, sv_l, sv_c, sv_x, sv_t, lw_i, lw_s, lw_t, lv_s, lv_t, lv_i, lv_n, add_ii, add_ss, add_tt, add_ll, add_lc, add_cl, add_cc, sub_ii, plus_ii, mul_ii, mul_li, fdv_ii, mod_ii, pow_ii, neg_i, sh_i, sh_s, sh_t, sh_l, sh_n, sh_b, sh_c, eq_nn, ne_nn, eq_ni, ne_ni, eq_in, ne_in, eq_nb, ne_nb, eq_bn, ne_bn, eq_ns, ne_ns, eq_sn, ne_sn, eq_ii, ne_ii, eq_bb, ne_bb, eq_ss, ne_ss, eq_is, ne_is, eq_si, ne_si, eq_bs, ne_bs, eq_sb, ne_sb, isn_n, non_n, isn_i, non_i, isn_b, non_b, isn_s, non_s, isn_t, non_t, isn_l, non_l, isn_c, non_c, isn_x, non_x, tru_n, tru_b, tru_i, tru_t, tru_l, notv_b, ix_t, ix_s, ix_l, ix_x, ix_c, ixl_c, sl_t, sl_s, sl_l, sl_c, rev_l, rev_c, len_t, len_l, len_x, len_s, len_c, list_t, list_l, list_x, list_c, tuple_t, tuple_l, tuple_c, int_i, int_b, abs_i, ord_s, isi_n, isi_b, isi_i, isi_s, isi_t, isi_l, isi_c, kindc, max_ii, min_ii, app_c, ext_c, set_c, sidx_ss, cm_ii, cm_ile, cm_igt, cm_ige, isl_l, isl_c, isl_s, iss_s, iss_l, b_ok, b_st, b_ex, o_ok, o_st, o_ex, c_ok, c_st, c_ex, fin_rt, fin_nx, fin_st, nx_nx, nx_rt, nx_bk, nx_ct, nx_ex, nx_st, e_seq, e_var, e_c, e_op, e_un, e_nil, e_cons, e_call, e_tup, e_lst, e_otup, e_olst, e_gd, e_asg, e_drop, e_ret, e_retN, e_next, e_brk, e_cont, e_ifs, e_setS, e_aug, e_augS, e_tru, e_bl, e_and, e_or, e_not, e_andV, e_orV, e_notV, e_if, e_chain, e_nop, e_part, e_sl, e_iSeq, e_iR1, e_iR2, rngOk_of, rngOk2_of, e_for, e_lc, e_yes, e_mt, e_mt2, e_join, e_put, e_fits, Tg.put, TgL.puts, txtAt, h0, h1, character_k, optP_s, optP_n]
  have hc := cut_nat (k.map P.int) a 7
  have h7 : (((a : Nat) : Int) + ((7 : Nat) : Int)) = (a : Int) + 7 := rfl
  rw [h7, ← List.map_drop, ← List.map_take] at hc
  have hs : strL [] = ("" : Str) := by decide +kernel
  have := loop 7 (k.drop a) [] none none (by simp)
  rw [hs] at this
  unfold f_text_at fnC fnF fb_text_at
  have e1 : (a : Int) + 6 + 1 = (a : Int) + 7 := by omega
  simp only [ip] at this ⊢
  simp at this
  simp [mkL_f, mkL_t, wipeP, mulOk, lw_l, lw_c, lv_l, lv_c, lv_x, sv_l, sv_c, sv_x, sv_t, lw_i, lw_s, lw_t, lv_s, lv_t, lv_i, lv_n, add_ii, add_ss, add_tt, add_ll, add_lc, add_cl, add_cc, sub_ii, plus_ii, mul_ii, mul_li, fdv_ii, mod_ii, pow_ii, neg_i, sh_i, sh_s, sh_t, sh_l, sh_n, sh_b, sh_c, eq_nn, ne_nn, eq_ni, ne_ni, eq_in, ne_in, eq_nb, ne_nb, eq_bn, ne_bn, eq_ns, ne_ns, eq_sn, ne_sn, eq_ii, ne_ii, eq_bb, ne_bb, eq_ss, ne_ss, eq_is, ne_is, eq_si, ne_si, eq_bs, ne_bs, eq_sb, ne_sb, isn_n, non_n, isn_i, non_i, isn_b, non_b, isn_s, non_s, isn_t, non_t, isn_l, non_l, isn_c, non_c, isn_x, non_x, tru_n, tru_b, tru_i, tru_t, tru_l, notv_b, ix_t, ix_s, ix_l, ix_x, ix_c, ixl_c, sl_t, sl_s, sl_l, sl_c, rev_l, rev_c, len_t, len_l, len_x, len_s, len_c, list_t, list_l, list_x, list_c, tuple_t, tuple_l, tuple_c, int_i, int_b, abs_i, ord_s, isi_n, isi_b, isi_i, isi_s, isi_t, isi_l, isi_c, kindc, max_ii, min_ii, app_c, ext_c, set_c, sidx_ss, cm_ii, cm_ile, cm_igt, cm_ige, isl_l, isl_c, isl_s, iss_s, iss_l, b_ok, b_st, b_ex, o_ok, o_st, o_ex, c_ok, c_st, c_ex, fin_rt, fin_nx, fin_st, nx_nx, nx_rt, nx_bk, nx_ct, nx_ex, nx_st, e_seq, e_var, e_c, e_op, e_un, e_nil, e_cons, e_call, e_tup, e_lst, e_otup, e_olst, e_gd, e_asg, e_drop, e_ret, e_retN, e_next, e_brk, e_cont, e_ifs, e_setS, e_aug, e_augS, e_tru, e_bl, e_and, e_or, e_not, e_andV, e_orV, e_notV, e_if, e_chain, e_nop, e_part, e_sl, e_iSeq, e_iR1, e_iR2, rngOk_of, rngOk2_of, e_for, e_lc, e_yes, e_mt, e_mt2, e_join, e_put, e_fits, Tg.put, TgL.puts, startP, e1, hc, this]
  cases txtAt 7 [] (k.drop a) <;> simp [optP_s, optP_n, cut_tree0, mkL_f, mkL_t, wipeP, mulOk, lw_l, lw_c, lv_l, lv_c, lv_x, sv_l, sv_c, sv_x, sv_t, lw_i, lw_s, lw_t, lv_s, lv_t, lv_i, lv_n, add_ii, add_ss, add_tt, add_ll, add_lc, add_cl, add_cc, sub_ii, plus_ii, mul_ii, mul_li, fdv_ii, mod_ii, pow_ii, neg_i, sh_i, sh_s, sh_t, sh_l, sh_n, sh_b, sh_c, eq_nn, ne_nn, eq_ni, ne_ni, eq_in, ne_in, eq_nb, ne_nb, eq_bn, ne_bn, eq_ns, ne_ns, eq_sn, ne_sn, eq_ii, ne_ii, eq_bb, ne_bb, eq_ss, ne_ss, eq_is, ne_is, eq_si, ne_si, eq_bs, ne_bs, eq_sb, ne_sb, isn_n, non_n, isn_i, non_i, isn_b, non_b, isn_s, non_s, isn_t, non_t, isn_l, non_l, isn_c, non_c, isn_x, non_x, tru_n, tru_b, tru_i, tru_t, tru_l, notv_b, ix_t, ix_s, ix_l, ix_x, ix_c, ixl_c, sl_t, sl_s, sl_l, sl_c, rev_l, rev_c, len_t, len_l, len_x, len_s, len_c, list_t, list_l, list_x, list_c, tuple_t, tuple_l, tuple_c, int_i, int_b, abs_i, ord_s, isi_n, isi_b, isi_i, isi_s, isi_t, isi_l, isi_c, kindc, max_ii, min_ii, app_c, ext_c, set_c, sidx_ss, cm_ii, cm_ile, cm_igt, cm_ige, isl_l, isl_c, isl_s, iss_s, iss_l, b_ok, b_st, b_ex, o_ok, o_st, o_ex, c_ok, c_st, c_ex, fin_rt, fin_nx, fin_st, nx_nx, nx_rt, nx_bk, nx_ct, nx_ex, nx_st, e_seq, e_var, e_c, e_op, e_un, e_nil, e_cons, e_call, e_tup, e_lst, e_otup, e_olst, e_gd, e_asg, e_drop, e_ret, e_retN, e_next, e_brk, e_cont, e_ifs, e_setS, e_aug, e_augS, e_tru, e_bl, e_and, e_or, e_not, e_andV, e_orV, e_notV, e_if, e_chain, e_nop, e_part, e_sl, e_iSeq, e_iR1, e_iR2, rngOk_of, rngOk2_of, e_for, e_lc, e_yes, e_mt, e_mt2, e_join, e_put, e_fits, Tg.put, TgL.puts]
/-! ### a whole key -/
def dec : Nat → List Int → List Kv → Option (List Kv)
  | 0, _, _ => none
  | _ + 1, [], acc => some acc
  | n + 1, c :: r, acc => if c = 1 then match intAt r with
      | some i => dec n (r.drop 5) (acc ++ [.n i])
      | none => none
    else if c = 2 then match txtAt 7 [] r with
      | some x => dec n (r.drop (x.length + 1)) (acc ++ [.t x])
      | none => none
    else none
theorem txtAt_len : ∀ (n : Nat) (acc : List Nat) (l : List Int) (d : List Nat), txtAt n acc l = some d → d.length + 1 ≤ acc.length + n ∧ d.length + 1 ≤ acc.length + l.length
  | 0, _, _, _, h => by simp [txtAt] at h
  | n + 1, _, [], _, h => by simp [txtAt] at h
  | n + 1, acc, c :: r, d, h => by
    rw [txtAt] at h
    split at h
    · cases h; simp only [List.length_cons]; omega
    · split at h
      · have := txtAt_len n _ r d h
        simp only [List.length_append, List.length_cons, List.length_nil] at this ⊢
        omega
      · cases h
theorem intAt_len {l : List Int} {i : Int} (h : intAt l = some i) : 5 ≤ l.length := by
  unfold intAt at h
  split at h
  · cases h
  · omega
theorem drop_at {k r : List Int} {c : Int} {a : Nat} (h : k.drop a = c :: r) : k[a]? = some c ∧ k.drop (a + 1) = r ∧ a < k.length := by
  have hl : a < k.length := by
    rcases Nat.lt_or_ge a k.length with q | q
    · exact q
    · rw [List.drop_of_length_le q] at h; cases h
  rw [List.drop_eq_getElem_cons hl] at h
  injection h with h1 h2
  exact ⟨by rw [List.getElem?_eq_getElem hl, h1], h2, hl⟩
theorem decode_loop (k : List Int) (m : M) (hk : k.length ≤ 90000) : ∀ (f N a : Nat) (acc : List Kv) (o : Option P), f ≤ N → (k.drop a).length < f → acc.length + (k.drop a).length ≤ 90000 → ∃ xs, (whileG (fBl (fOp (oCm .lt) (fVar 2) (fCall oLen (fCons (fVar 0) fNil)))) (fSeq (fIfS (fBl (fOp oEq (fOp oIx (fVar 0) (fVar 2)) (fC (.int 1)))) (fAsg (.name 3) (fCall (gd 2 f_integer_at) (fCons (fVar 0) (fCons (fOp (oAdd false) (fVar 2) (fC (.int 1))) fNil)))) (fIfS (fBl (fOp oEq (fOp oIx (fVar 0) (fVar 2)) (fC (.int 2)))) (fAsg (.name 3) (fCall (gd 2 f_text_at) (fCons (fVar 0) (fCons (fOp (oAdd false) (fVar 2) (fC (.int 1))) fNil)))) (fRet (fC .non))))
  (fSeq (fIfS (fBl (fOp oIsN (fVar 3) (fC .non))) (fRet (fC .non)) fNext)
  (fSeq (fDrop (fMt isL oAppend (fVar 1) (fCons (fVar 3) fNil)))
  (fAug 2 oPlus (fCall oLen (fCons (fCall (gd 1 f_bytes_of) (fCons (fVar 3) fNil)) fNil)))))) N [some (ip k), some (.cell m.length), some (.int a), o] (m ++ [.lst (acc.map kp)])).next (fRet (fCall oTuple (fCons (fVar 1) fNil))) = .rt (optP (fun vs : List Kv => .tup (vs.map kp)) (dec f (k.drop a) acc)) (m ++ [.lst xs])
  | 0, _, _, _, _, _, h, _ => by omega
  | f + 1, 0, _, _, _, hN, _, _ => by omega
  | f + 1, N + 1, a, acc, o, hN, hf, hl => by
    rw [whileG]
    cases hr : k.drop a with
    | nil =>
      have ha : ¬ ((a : Int) < (k.length : Int)) := by
        have := congrArg List.length hr
        simp at this
        omega
      refine ⟨acc.map kp, ?_⟩
      simp [mkL_f, mkL_t, wipeP, mulOk, lw_l, lw_c, lv_l, lv_c, lv_x, sv_l, sv_c, sv_x, sv_t, lw_i, lw_s, lw_t, lv_s, lv_t, lv_i, lv_n, add_ii, add_ss, add_tt, add_ll, add_lc, add_cl, add_cc, sub_ii, plus_ii, mul_ii, mul_li, fdv_ii, mod_ii, pow_ii, neg_i, sh_i, sh_s, sh_t, sh_l, sh_n, sh_b, sh_c, eq_nn, ne_nn, eq_ni, ne_ni, eq_in, ne_in, eq_nb, ne_nb, eq_bn, ne_bn, eq_ns, ne_ns, eq_sn, ne_sn, eq_ii, ne_ii, eq_bb, ne_bb, eq_ss, ne_ss, eq_is, ne_is, eq_si, ne_si, eq_bs, ne_bs, eq_sb, ne_sb, isn_n, non_n, isn_i, non_i, isn_b, non_b, isn_s, non_s, isn_t, non_t, isn_l, non_l, isn_c, non_c, isn_x, non_x, tru_n, tru_b, tru_i, tru_t, tru_l, notv_b, ix_t, ix_s, ix_l, ix_x, ix_c, ixl_c, sl_t, sl_s, sl_l, sl_c, rev_l, rev_c, len_t, len_l, len_x, len_s, len_c, list_t, list_l, list_x, list_c, tuple_t, tuple_l, tuple_c, int_i, int_b, abs_i, ord_s, isi_n, isi_b, isi_i, isi_s, isi_t, isi_l, isi_c, kindc, max_ii, min_ii, app_c, ext_c, set_c, sidx_ss, cm_ii, cm_ile, cm_igt, cm_ige, isl_l, isl_c, isl_s, iss_s, iss_l, b_ok, b_st, b_ex, o_ok, o_st, o_ex, c_ok, c_st, c_ex, fin_rt, fin_nx, fin_st, nx_nx, nx_rt, nx_bk, nx_ct, nx_ex, nx_st, e_seq, e_var, e_c, e_op, e_un, e_nil, e_cons, e_call, e_tup, e_lst, e_otup, e_olst, e_gd, e_asg, e_drop, e_ret, e_retN, e_next, e_brk, e_cont, e_ifs, e_setS, e_aug, e_augS, e_tru, e_bl, e_and, e_or, e_not, e_andV, e_orV, e_notV, e_if, e_chain, e_nop, e_part, e_sl, e_iSeq, e_iR1, e_iR2, rngOk_of, rngOk2_of, e_for, e_lc, e_yes, e_mt, e_mt2, e_join, e_put, e_fits, Tg.put, TgL.puts, ip, ha, dec, optP_s, optP_n]
    | cons c r =>
      obtain ⟨h1, h2, h3⟩ := drop_at hr
      have ha : (a : Int) < (k.length : Int) := by omega
      have e1 : ((a : Int) + 1) = ((a + 1 : Nat) : Int) := by omega
      rw [hr] at hf hl
      simp only [List.length_cons] at hf hl
      rw [dec]
      have hip : ∀ n, oLen [ip k] n = .ok (.int (k.length : Int)) n := fun n => by simp only [ip, len_t, List.length_map]
      have hix : ∀ n, oIx (ip k) (.int a) n = .ok (.int c) n := fun n => by
        simp only [ip, ix_t, atI_nat', List.getElem?_map, h1, Option.map_some]
      have hia : ∀ n, f_integer_at [ip k, .int ((a : Int) + 1)] n = .ok (optP .int (intAt r)) n := fun n => by rw [e1, integer_at_k, h2]
      have hta : ∀ n, f_text_at [ip k, .int ((a : Int) + 1)] n = .ok (optP (fun x => .str (strL x)) (txtAt 7 [] r)) n := fun n => by rw [e1, text_at_k, h2]
      clear e1
      by_cases hc1 : c = 1
      · subst hc1
        rw [if_pos rfl]
        cases hi : intAt r with
        | none =>
          refine ⟨acc.map kp, ?_⟩
          simp [mkL_f, mkL_t, wipeP, mulOk, lw_l, lw_c, lv_l, lv_c, lv_x, sv_l, sv_c, sv_x, sv_t, lw_i, lw_s, lw_t, lv_s, lv_t, lv_i, lv_n, add_ii, add_ss, add_tt, add_ll, add_lc, add_cl, add_cc, sub_ii, plus_ii, mul_ii, mul_li, fdv_ii, mod_ii, pow_ii, neg_i, sh_i, sh_s, sh_t, sh_l, sh_n, sh_b, sh_c, eq_nn, ne_nn, eq_ni, ne_ni, eq_in, ne_in, eq_nb, ne_nb, eq_bn, ne_bn, eq_ns, ne_ns, eq_sn, ne_sn, eq_ii, ne_ii, eq_bb, ne_bb, eq_ss, ne_ss, eq_is, ne_is, eq_si, ne_si, eq_bs, ne_bs, eq_sb, ne_sb, isn_n, non_n, isn_i, non_i, isn_b, non_b, isn_s, non_s, isn_t, non_t, isn_l, non_l, isn_c, non_c, isn_x, non_x, tru_n, tru_b, tru_i, tru_t, tru_l, notv_b, ix_t, ix_s, ix_l, ix_x, ix_c, ixl_c, sl_t, sl_s, sl_l, sl_c, rev_l, rev_c, len_t, len_l, len_x, len_s, len_c, list_t, list_l, list_x, list_c, tuple_t, tuple_l, tuple_c, int_i, int_b, abs_i, ord_s, isi_n, isi_b, isi_i, isi_s, isi_t, isi_l, isi_c, kindc, max_ii, min_ii, app_c, ext_c, set_c, sidx_ss, cm_ii, cm_ile, cm_igt, cm_ige, isl_l, isl_c, isl_s, iss_s, iss_l, b_ok, b_st, b_ex, o_ok, o_st, o_ex, c_ok, c_st, c_ex, fin_rt, fin_nx, fin_st, nx_nx, nx_rt, nx_bk, nx_ct, nx_ex, nx_st, e_seq, e_var, e_c, e_op, e_un, e_nil, e_cons, e_call, e_tup, e_lst, e_otup, e_olst, e_gd, e_asg, e_drop, e_ret, e_retN, e_next, e_brk, e_cont, e_ifs, e_setS, e_aug, e_augS, e_tru, e_bl, e_and, e_or, e_not, e_andV, e_orV, e_notV, e_if, e_chain, e_nop, e_part, e_sl, e_iSeq, e_iR1, e_iR2, rngOk_of, rngOk2_of, e_for, e_lc, e_yes, e_mt, e_mt2, e_join, e_put, e_fits, Tg.put, TgL.puts, hip, hix, ha, hia, hi, optP_s, optP_n]
        | some i =>
          have h5 := intAt_len hi
          have hd : (k.drop (a + 6)) = r.drop 5 := by rw [← h2, List.drop_drop]
          have hlen : (r.drop 5).length = r.length - 5 := List.length_drop
          obtain ⟨xs, hx⟩ := decode_loop k m hk f N (a + 6) (acc ++ [.n i]) (some (.int i)) (by omega) (by rw [hd]; omega) (by rw [hd, List.length_append, List.length_singleton]; omega)
          refine ⟨xs, ?_⟩
          have e6 : ((a + 6 : Nat) : Int) = (a : Int) + 6 := by omega
          rw [hd, e6] at hx
          have hs : acc.length < 100000 := by omega
          have hb : (kb (.n i)).length = 6 := by simp [kb, dig5]
          simp [mkL_f, mkL_t, wipeP, mulOk, lw_l, lw_c, lv_l, lv_c, lv_x, sv_l, sv_c, sv_x, sv_t, lw_i, lw_s, lw_t, lv_s, lv_t, lv_i, lv_n, add_ii, add_ss, add_tt, add_ll, add_lc, add_cl, add_cc, sub_ii, plus_ii, mul_ii, mul_li, fdv_ii, mod_ii, pow_ii, neg_i, sh_i, sh_s, sh_t, sh_l, sh_n, sh_b, sh_c, eq_nn, ne_nn, eq_ni, ne_ni, eq_in, ne_in, eq_nb, ne_nb, eq_bn, ne_bn, eq_ns, ne_ns, eq_sn, ne_sn, eq_ii, ne_ii, eq_bb, ne_bb, eq_ss, ne_ss, eq_is, ne_is, eq_si, ne_si, eq_bs, ne_bs, eq_sb, ne_sb, isn_n, non_n, isn_i, non_i, isn_b, non_b, isn_s, non_s, isn_t, non_t, isn_l, non_l, isn_c, non_c, isn_x, non_x, tru_n, tru_b, tru_i, tru_t, tru_l, notv_b, ix_t, ix_s, ix_l, ix_x, ix_c, ixl_c, sl_t, sl_s, sl_l, sl_c, rev_l, rev_c, len_t, len_l, len_x, len_s, len_c, list_t, list_l, list_x, list_c, tuple_t, tuple_l, tuple_c, int_i, int_b, abs_i, ord_s, isi_n, isi_b, isi_i, isi_s, isi_t, isi_l, isi_c, kindc, max_ii, min_ii, app_c, ext_c, set_c, sidx_ss, cm_ii, cm_ile, cm_igt, cm_ige, isl_l, isl_c, isl_s, iss_s, iss_l, b_ok, b_st, b_ex, o_ok, o_st, o_ex, c_ok, c_st, c_ex, fin_rt, fin_nx, fin_st, nx_nx, nx_rt, nx_bk, nx_ct, nx_ex, nx_st, e_seq, e_var, e_c, e_op, e_un, e_nil, e_cons, e_call, e_tup, e_lst, e_otup, e_olst, e_gd, e_asg, e_drop, e_ret, e_retN, e_next, e_brk, e_cont, e_ifs, e_setS, e_aug, e_augS, e_tru, e_bl, e_and, e_or, e_not, e_andV, e_orV, e_notV, e_if, e_chain, e_nop, e_part, e_sl, e_iSeq, e_iR1, e_iR2, rngOk_of, rngOk2_of, e_for, e_lc, e_yes, e_mt, e_mt2, e_join, e_put, e_fits, Tg.put, TgL.puts, hip, hix, ha, hia, hi, optP_s, optP_n, hs, bytes_of_n, hb]
          simpa [kp] using hx
      · by_cases hc2 : c = 2
        · subst hc2
          rw [if_neg hc1, if_pos rfl]
          cases hi : txtAt 7 [] r with
          | none =>
            refine ⟨acc.map kp, ?_⟩
            simp [mkL_f, mkL_t, wipeP, mulOk, lw_l, lw_c, lv_l, lv_c, lv_x, sv_l, sv_c, sv_x, sv_t, lw_i, lw_s, lw_t, lv_s, lv_t, lv_i, lv_n, add_ii, add_ss, add_tt, add_ll, add_lc, add_cl, add_cc, sub_ii, plus_ii, mul_ii, mul_li, fdv_ii, mod_ii, pow_ii, neg_i, sh_i, sh_s, sh_t, sh_l, sh_n, sh_b, sh_c, eq_nn, ne_nn, eq_ni, ne_ni, eq_in, ne_in, eq_nb, ne_nb, eq_bn, ne_bn, eq_ns, ne_ns, eq_sn, ne_sn, eq_ii, ne_ii, eq_bb, ne_bb, eq_ss, ne_ss, eq_is, ne_is, eq_si, ne_si, eq_bs, ne_bs, eq_sb, ne_sb, isn_n, non_n, isn_i, non_i, isn_b, non_b, isn_s, non_s, isn_t, non_t, isn_l, non_l, isn_c, non_c, isn_x, non_x, tru_n, tru_b, tru_i, tru_t, tru_l, notv_b, ix_t, ix_s, ix_l, ix_x, ix_c, ixl_c, sl_t, sl_s, sl_l, sl_c, rev_l, rev_c, len_t, len_l, len_x, len_s, len_c, list_t, list_l, list_x, list_c, tuple_t, tuple_l, tuple_c, int_i, int_b, abs_i, ord_s, isi_n, isi_b, isi_i, isi_s, isi_t, isi_l, isi_c, kindc, max_ii, min_ii, app_c, ext_c, set_c, sidx_ss, cm_ii, cm_ile, cm_igt, cm_ige, isl_l, isl_c, isl_s, iss_s, iss_l, b_ok, b_st, b_ex, o_ok, o_st, o_ex, c_ok, c_st, c_ex, fin_rt, fin_nx, fin_st, nx_nx, nx_rt, nx_bk, nx_ct, nx_ex, nx_st, e_seq, e_var, e_c, e_op, e_un, e_nil, e_cons, e_call, e_tup, e_lst, e_otup, e_olst, e_gd, e_asg, e_drop, e_ret, e_retN, e_next, e_brk, e_cont, e_ifs, e_setS, e_aug, e_augS, e_tru, e_bl, e_and, e_or, e_not, e_andV, e_orV, e_notV, e_if, e_chain, e_nop, e_part, e_sl, e_iSeq, e_iR1, e_iR2, rngOk_of, rngOk2_of, e_for, e_lc, e_yes, e_mt, e_mt2, e_join, e_put, e_fits, Tg.put, TgL.puts, hip, hix, ha, hta, hi, optP_s, optP_n]
          | some x =>
            obtain ⟨h6, h7⟩ := txtAt_len 7 [] r x hi
            simp only [List.length_nil, Nat.zero_add] at h6 h7
            have hd : (k.drop (a + (x.length + 2))) = r.drop (x.length + 1) := by rw [← h2, List.drop_drop]; congr 1; omega
            have hlen : (r.drop (x.length + 1)).length = r.length - (x.length + 1) := List.length_drop
            obtain ⟨xs, hx⟩ := decode_loop k m hk f N (a + (x.length + 2)) (acc ++ [.t x]) (some (.str (strL x))) (by omega) (by rw [hd]; omega) (by rw [hd, List.length_append, List.length_singleton]; omega)
            refine ⟨xs, ?_⟩
            have e6 : ((a + (x.length + 2) : Nat) : Int) = (a : Int) + ((x.length : Int) + 2) := by omega
            rw [hd, e6] at hx
            have hs : acc.length < 100000 := by omega
            have hb : (kb (.t x)).length = x.length + 2 := by simp [kb]
            simp [mkL_f, mkL_t, wipeP, mulOk, lw_l, lw_c, lv_l, lv_c, lv_x, sv_l, sv_c, sv_x, sv_t, lw_i, lw_s, lw_t, lv_s, lv_t, lv_i, lv_n, add_ii, add_ss, add_tt, add_ll, add_lc, add_cl, add_cc, sub_ii, plus_ii, mul_ii, mul_li, fdv_ii, mod_ii, pow_ii, neg_i, sh_i, sh_s, sh_t, sh_l, sh_n, sh_b, sh_c, eq_nn, ne_nn, eq_ni, ne_ni, eq_in, ne_in, eq_nb, ne_nb, eq_bn, ne_bn, eq_ns, ne_ns, eq_sn, ne_sn, eq_ii, ne_ii, eq_bb, ne_bb, eq_ss, ne_ss, eq_is, ne_is, eq_si, ne_si, eq_bs, ne_bs, eq_sb, ne_sb, isn_n, non_n, isn_i, non_i, isn_b, non_b, isn_s, non_s, isn_t, non_t, isn_l, non_l, isn_c, non_c, isn_x, non_x, tru_n, tru_b, tru_i, tru_t, tru_l, notv_b, ix_t, ix_s, ix_l, ix_x, ix_c, ixl_c, sl_t, sl_s, sl_l, sl_c, rev_l, rev_c, len_t, len_l, len_x, len_s, len_c, list_t, list_l, list_x, list_c, tuple_t, tuple_l, tuple_c, int_i, int_b, abs_i, ord_s, isi_n, isi_b, isi_i, isi_s, isi_t, isi_l, isi_c, kindc, max_ii, min_ii, app_c, ext_c, set_c, sidx_ss, cm_ii, cm_ile, cm_igt, cm_ige, isl_l, isl_c, isl_s, iss_s, iss_l, b_ok, b_st, b_ex, o_ok, o_st, o_ex, c_ok, c_st, c_ex, fin_rt, fin_nx, fin_st, nx_nx, nx_rt, nx_bk, nx_ct, nx_ex, nx_st, e_seq, e_var, e_c, e_op, e_un, e_nil, e_cons, e_call, e_tup, e_lst, e_otup, e_olst, e_gd, e_asg, e_drop, e_ret, e_retN, e_next, e_brk, e_cont, e_ifs, e_setS, e_aug, e_augS, e_tru, e_bl, e_and, e_or, e_not, e_andV, e_orV, e_notV, e_if, e_chain, e_nop, e_part, e_sl, e_iSeq, e_iR1, e_iR2, rngOk_of, rngOk2_of, e_for, e_lc, e_yes, e_mt, e_mt2, e_join, e_put, e_fits, Tg.put, TgL.puts, hip, hix, ha, hta, hi, optP_s, optP_n, hs, bytes_of_t x _ (by omega), hb]
            simpa [kp] using hx
        · rw [if_neg hc1, if_neg hc2]
          refine ⟨acc.map kp, ?_⟩
          simp [mkL_f, mkL_t, wipeP, mulOk, lw_l, lw_c, lv_l, lv_c, lv_x, sv_l, sv_c, sv_x, sv_t, lw_i, lw_s, lw_t, lv_s, lv_t, lv_i, lv_n, add_ii, add_ss, add_tt, add_ll, add_lc, add_cl, add_cc, sub_ii, plus_ii, mul_ii, mul_li, fdv_ii, mod_ii, pow_ii, neg_i, sh_i, sh_s, sh_t, sh_l, sh_n, sh_b, sh_c, eq_nn, ne_nn, eq_ni, ne_ni, eq_in, ne_in, eq_nb, ne_nb, eq_bn, ne_bn, eq_ns, ne_ns, eq_sn, ne_sn, eq_ii, ne_ii, eq_bb, ne_bb, eq_ss, ne_ss, eq_is, ne_is, eq_si, ne_si, eq_bs, ne_bs, eq_sb, ne_sb, isn_n, non_n, isn_i, non_i, isn_b, non_b, isn_s, non_s, isn_t, non_t, isn_l, non_l, isn_c, non_c, isn_x, non_x, tru_n, tru_b, tru_i, tru_t, tru_l, notv_b, ix_t, ix_s, ix_l, ix_x, ix_c, ixl_c, sl_t, sl_s, sl_l, sl_c, rev_l, rev_c, len_t, len_l, len_x, len_s, len_c, list_t, list_l, list_x, list_c, tuple_t, tuple_l, tuple_c, int_i, int_b, abs_i, ord_s, isi_n, isi_b, isi_i, isi_s, isi_t, isi_l, isi_c, kindc, max_ii, min_ii, app_c, ext_c, set_c, sidx_ss, cm_ii, cm_ile, cm_igt, cm_ige, isl_l, isl_c, isl_s, iss_s, iss_l, b_ok, b_st, b_ex, o_ok, o_st, o_ex, c_ok, c_st, c_ex, fin_rt, fin_nx, fin_st, nx_nx, nx_rt, nx_bk, nx_ct, nx_ex, nx_st, e_seq, e_var, e_c, e_op, e_un, e_nil, e_cons, e_call, e_tup, e_lst, e_otup, e_olst, e_gd, e_asg, e_drop, e_ret, e_retN, e_next, e_brk, e_cont, e_ifs, e_setS, e_aug, e_augS, e_tru, e_bl, e_and, e_or, e_not, e_andV, e_orV, e_notV, e_if, e_chain, e_nop, e_part, e_sl, e_iSeq, e_iR1, e_iR2, rngOk_of, rngOk2_of, e_for, e_lc, e_yes, e_mt, e_mt2, e_join, e_put, e_fits, Tg.put, TgL.puts, hip, hix, ha, hc1, hc2, optP_s, optP_n]
def decode (k : List Int) : Option (List Kv) := dec (k.length + 1) k []
theorem kps_under (n : Nat) (vs : List Kv) : P.unders n (vs.map kp) = true := uns_all fun x hx => by
  obtain ⟨v, _, rfl⟩ := List.mem_map.mp hx
  cases v <;> simp [kp]
theorem values_of_k (k : List Int) (m : M) (hk : k.length ≤ 80000) : f_values_of [ip k] m = .ok (optP (fun vs : List Kv => .tup (vs.map kp)) (decode k)) m := by
  obtain ⟨xs, hx⟩ := decode_loop k m (by omega) (k.length + 1) manyTurns 0 [] none (by unfold manyTurns; omega) (by simp) (by simp; omega)
  simp only [List.drop_zero, List.map_nil] at hx
  unfold f_values_of fnC fnF fb_values_of fWhile
  unfold decode
  rw [show ((0 : Nat) : Int) = 0 from rfl] at hx
  simp [mkL_f, mkL_t, wipeP, mulOk, lw_l, lw_c, lv_l, lv_c, lv_x, sv_l, sv_c, sv_x, sv_t, lw_i, lw_s, lw_t, lv_s, lv_t, lv_i, lv_n, add_ii, add_ss, add_tt, add_ll, add_lc, add_cl, add_cc, sub_ii, plus_ii, mul_ii, mul_li, fdv_ii, mod_ii, pow_ii, neg_i, sh_i, sh_s, sh_t, sh_l, sh_n, sh_b, sh_c, eq_nn, ne_nn, eq_ni, ne_ni, eq_in, ne_in, eq_nb, ne_nb, eq_bn, ne_bn, eq_ns, ne_ns, eq_sn, ne_sn, eq_ii, ne_ii, eq_bb, ne_bb, eq_ss, ne_ss, eq_is, ne_is, eq_si, ne_si, eq_bs, ne_bs, eq_sb, ne_sb, isn_n, non_n, isn_i, non_i, isn_b, non_b, isn_s, non_s, isn_t, non_t, isn_l, non_l, isn_c, non_c, isn_x, non_x, tru_n, tru_b, tru_i, tru_t, tru_l, notv_b, ix_t, ix_s, ix_l, ix_x, ix_c, ixl_c, sl_t, sl_s, sl_l, sl_c, rev_l, rev_c, len_t, len_l, len_x, len_s, len_c, list_t, list_l, list_x, list_c, tuple_t, tuple_l, tuple_c, int_i, int_b, abs_i, ord_s, isi_n, isi_b, isi_i, isi_s, isi_t, isi_l, isi_c, kindc, max_ii, min_ii, app_c, ext_c, set_c, sidx_ss, cm_ii, cm_ile, cm_igt, cm_ige, isl_l, isl_c, isl_s, iss_s, iss_l, b_ok, b_st, b_ex, o_ok, o_st, o_ex, c_ok, c_st, c_ex, fin_rt, fin_nx, fin_st, nx_nx, nx_rt, nx_bk, nx_ct, nx_ex, nx_st, e_seq, e_var, e_c, e_op, e_un, e_nil, e_cons, e_call, e_tup, e_lst, e_otup, e_olst, e_gd, e_asg, e_drop, e_ret, e_retN, e_next, e_brk, e_cont, e_ifs, e_setS, e_aug, e_augS, e_tru, e_bl, e_and, e_or, e_not, e_andV, e_orV, e_notV, e_if, e_chain, e_nop, e_part, e_sl, e_iSeq, e_iR1, e_iR2, rngOk_of, rngOk2_of, e_for, e_lc, e_yes, e_mt, e_mt2, e_join, e_put, e_fits, Tg.put, TgL.puts, startP, hx]
  cases dec (k.length + 1) k [] <;> simp [optP_s, optP_n, cut_tree, kps_under, mkL_f, mkL_t, wipeP, mulOk, lw_l, lw_c, lv_l, lv_c, lv_x, sv_l, sv_c, sv_x, sv_t, lw_i, lw_s, lw_t, lv_s, lv_t, lv_i, lv_n, add_ii, add_ss, add_tt, add_ll, add_lc, add_cl, add_cc, sub_ii, plus_ii, mul_ii, mul_li, fdv_ii, mod_ii, pow_ii, neg_i, sh_i, sh_s, sh_t, sh_l, sh_n, sh_b, sh_c, eq_nn, ne_nn, eq_ni, ne_ni, eq_in, ne_in, eq_nb, ne_nb, eq_bn, ne_bn, eq_ns, ne_ns, eq_sn, ne_sn, eq_ii, ne_ii, eq_bb, ne_bb, eq_ss, ne_ss, eq_is, ne_is, eq_si, ne_si, eq_bs, ne_bs, eq_sb, ne_sb, isn_n, non_n, isn_i, non_i, isn_b, non_b, isn_s, non_s, isn_t, non_t, isn_l, non_l, isn_c, non_c, isn_x, non_x, tru_n, tru_b, tru_i, tru_t, tru_l, notv_b, ix_t, ix_s, ix_l, ix_x, ix_c, ixl_c, sl_t, sl_s, sl_l, sl_c, rev_l, rev_c, len_t, len_l, len_x, len_s, len_c, list_t, list_l, list_x, list_c, tuple_t, tuple_l, tuple_c, int_i, int_b, abs_i, ord_s, isi_n, isi_b, isi_i, isi_s, isi_t, isi_l, isi_c, kindc, max_ii, min_ii, app_c, ext_c, set_c, sidx_ss, cm_ii, cm_ile, cm_igt, cm_ige, isl_l, isl_c, isl_s, iss_s, iss_l, b_ok, b_st, b_ex, o_ok, o_st, o_ex, c_ok, c_st, c_ex, fin_rt, fin_nx, fin_st, nx_nx, nx_rt, nx_bk, nx_ct, nx_ex, nx_st, e_seq, e_var, e_c, e_op, e_un, e_nil, e_cons, e_call, e_tup, e_lst, e_otup, e_olst, e_gd, e_asg, e_drop, e_ret, e_retN, e_next, e_brk, e_cont, e_ifs, e_setS, e_aug, e_augS, e_tru, e_bl, e_and, e_or, e_not, e_andV, e_orV, e_notV, e_if, e_chain, e_nop, e_part, e_sl, e_iSeq, e_iR1, e_iR2, rngOk_of, rngOk2_of, e_for, e_lc, e_yes, e_mt, e_mt2, e_join, e_put, e_fits, Tg.put, TgL.puts]

end
/-! K2 -/
section
open PySem PySem.Spec PyProof.Rows
/-! ### the law's draws -/
def stC (sc : List Int) (i : Nat) (h s : Int) : Cell := .lst [.lst (sc.map .int), .int i, .int h, .int s]
/-- the state stands at cell n -/
def StAt (n : Nat) (m : M) : Prop := ∃ sc i h s, m[n]? = some (stC sc i h s) ∧ 0 ≤ h ∧ 0 ≤ s
theorem StAt.lt {n : Nat} {m : M} (h : StAt n m) : n < m.length := by
  obtain ⟨_, _, _, _, e, _⟩ := h
  exact (List.getElem?_eq_some_iff.mp e).1
theorem stC_under (sc i h s) (k : Nat) : (stC sc i h s).under k = true := by
  unfold stC Cell.under
  simp
theorem next_k {n : Nat} {m : M} (L : Int) (hs : StAt n m) (hL : 0 < L ∧ L < 2 ^ 62) : ∃ r c, f_next [.cell n, .int L] m = .ok (.int r) (m.set n c) ∧ 0 ≤ r ∧ r < L ∧ StAt n (m.set n c) := by
  have hn := hs.lt
  obtain ⟨sc, i, h, s, e, h0, s0⟩ := hs
  have g : ∀ c, (m.set n c)[n]? = some c := fun c => List.getElem?_set_self hn
  -- the first part
  have s1 : ∃ i' h' s' o, (fIfS (fAnd (fBl (fOp oEq (fOp oIx (fVar 0) (fC (.int 2))) (fC (.int 0)))) (fBl (fOp (oCm .lt) (fOp oIx (fVar 0) (fC (.int 1))) (fCall oLen (fCons (fOp oIx (fVar 0) (fC (.int 0))) fNil))))) (fSeq (fAsg (.name 2) (fOp oIx (fOp oIx (fVar 0) (fC (.int 0))) (fOp oIx (fVar 0) (fC (.int 1)))))
  (fSeq (fAugS (fVar 0) (fC (.int 1)) oPlus (fC (.int 1)))
  (fIfS (fBl (fOp (oCm .ge) (fVar 2) (fOp oPow (fC (.int 10)) (fC (.int 18))))) (fSetS (fVar 0) (fC (.int 2)) (fVar 2)) (fSetS (fVar 0) (fC (.int 3)) (fOp oMod (fCall oInt (fCons (fOp (oAdd false) (fOp (oAdd false) (fOp (oMul false) (fOp oIx (fVar 0) (fC (.int 3))) (fC (.int 48271))) (fOp oMod (fCall oInt (fCons (fVar 2) fNil)) (fC (.int 2147483647)))) (fC (.int 7))) fNil)) (fC (.int 2147483647))))))) fNext) [some (.cell n), some (.int L), none, none] m = .nx [some (.cell n), some (.int L), o, none] (m.set n (stC sc i' h' s')) ∧ 0 ≤ h' ∧ 0 ≤ s' := by
    have me : m = m.set n (stC sc i h s) := by
      apply List.ext_getElem?
      intro j
      by_cases q : n = j
      · subst q; rw [g, e]
      · rw [List.getElem?_set_ne q]
    by_cases c1 : h = 0
    · by_cases c2 : i < sc.length
      · have hx : sc[i]? = some sc[i] := List.getElem?_eq_getElem c2
        generalize sc[i] = x at hx
        have c2' : (i : Int) < (sc.length : Int) := by omega
        by_cases c3 : 1000000000000000000 ≤ x
        · refine ⟨i + 1, x, s, some (.int x), ?_, by omega, s0⟩
          simp [mkL_f, mkL_t, wipeP, mulOk, lw_l, lw_c, lv_l, lv_c, lv_x, sv_l, sv_c, sv_x, sv_t, lw_i, lw_s, lw_t, lv_s, lv_t, lv_i, lv_n, add_ii, add_ss, add_tt, add_ll, add_lc, add_cl, add_cc, sub_ii, plus_ii, mul_ii, mul_li, fdv_ii, mod_ii, pow_ii, neg_i, sh_i, sh_s, sh_t, sh_l, sh_n, sh_b, sh_c, eq_nn, ne_nn, eq_ni, ne_ni, eq_in, ne_in, eq_nb, ne_nb, eq_bn, ne_bn, eq_ns, ne_ns, eq_sn, ne_sn, eq_ii, ne_ii, eq_bb, ne_bb, eq_ss, ne_ss, eq_is, ne_is, eq_si, ne_si, eq_bs, ne_bs, eq_sb, ne_sb, isn_n, non_n, isn_i, non_i, isn_b, non_b, isn_s, non_s, isn_t, non_t, isn_l, non_l, isn_c, non_c, isn_x, non_x, tru_n, tru_b, tru_i, tru_t, tru_l, notv_b, ix_t, ix_s, ix_l, ix_x, ix_c, ixl_c, sl_t, sl_s, sl_l, sl_c, rev_l, rev_c, len_t, len_l, len_x, len_s, len_c, list_t, list_l, list_x, list_c, tuple_t, tuple_l, tuple_c, int_i, int_b, abs_i, ord_s, isi_n, isi_b, isi_i, isi_s, isi_t, isi_l, isi_c, kindc, max_ii, min_ii, app_c, ext_c, set_c, sidx_ss, cm_ii, cm_ile, cm_igt, cm_ige, isl_l, isl_c, isl_s, iss_s, iss_l, b_ok, b_st, b_ex, o_ok, o_st, o_ex, c_ok, c_st, c_ex, fin_rt, fin_nx, fin_st, nx_nx, nx_rt, nx_bk, nx_ct, nx_ex, nx_st, e_seq, e_var, e_c, e_op, e_un, e_nil, e_cons, e_call, e_tup, e_lst, e_otup, e_olst, e_gd, e_asg, e_drop, e_ret, e_retN, e_next, e_brk, e_cont, e_ifs, e_setS, e_aug, e_augS, e_tru, e_bl, e_and, e_or, e_not, e_andV, e_orV, e_notV, e_if, e_chain, e_nop, e_part, e_sl, e_iSeq, e_iR1, e_iR2, rngOk_of, rngOk2_of, e_for, e_lc, e_yes, e_mt, e_mt2, e_join, e_put, e_fits, Tg.put, TgL.puts, e, stC, atI_0, atI_1, atI_2, atI_3, atI_nat', c1, c2', hx, g, ixN, c3]
        · refine ⟨i + 1, 0, (s * 48271 + x % 2147483647 + 7) % 2147483647, some (.int x), ?_, by omega, by omega⟩
          simp [mkL_f, mkL_t, wipeP, mulOk, lw_l, lw_c, lv_l, lv_c, lv_x, sv_l, sv_c, sv_x, sv_t, lw_i, lw_s, lw_t, lv_s, lv_t, lv_i, lv_n, add_ii, add_ss, add_tt, add_ll, add_lc, add_cl, add_cc, sub_ii, plus_ii, mul_ii, mul_li, fdv_ii, mod_ii, pow_ii, neg_i, sh_i, sh_s, sh_t, sh_l, sh_n, sh_b, sh_c, eq_nn, ne_nn, eq_ni, ne_ni, eq_in, ne_in, eq_nb, ne_nb, eq_bn, ne_bn, eq_ns, ne_ns, eq_sn, ne_sn, eq_ii, ne_ii, eq_bb, ne_bb, eq_ss, ne_ss, eq_is, ne_is, eq_si, ne_si, eq_bs, ne_bs, eq_sb, ne_sb, isn_n, non_n, isn_i, non_i, isn_b, non_b, isn_s, non_s, isn_t, non_t, isn_l, non_l, isn_c, non_c, isn_x, non_x, tru_n, tru_b, tru_i, tru_t, tru_l, notv_b, ix_t, ix_s, ix_l, ix_x, ix_c, ixl_c, sl_t, sl_s, sl_l, sl_c, rev_l, rev_c, len_t, len_l, len_x, len_s, len_c, list_t, list_l, list_x, list_c, tuple_t, tuple_l, tuple_c, int_i, int_b, abs_i, ord_s, isi_n, isi_b, isi_i, isi_s, isi_t, isi_l, isi_c, kindc, max_ii, min_ii, app_c, ext_c, set_c, sidx_ss, cm_ii, cm_ile, cm_igt, cm_ige, isl_l, isl_c, isl_s, iss_s, iss_l, b_ok, b_st, b_ex, o_ok, o_st, o_ex, c_ok, c_st, c_ex, fin_rt, fin_nx, fin_st, nx_nx, nx_rt, nx_bk, nx_ct, nx_ex, nx_st, e_seq, e_var, e_c, e_op, e_un, e_nil, e_cons, e_call, e_tup, e_lst, e_otup, e_olst, e_gd, e_asg, e_drop, e_ret, e_retN, e_next, e_brk, e_cont, e_ifs, e_setS, e_aug, e_augS, e_tru, e_bl, e_and, e_or, e_not, e_andV, e_orV, e_notV, e_if, e_chain, e_nop, e_part, e_sl, e_iSeq, e_iR1, e_iR2, rngOk_of, rngOk2_of, e_for, e_lc, e_yes, e_mt, e_mt2, e_join, e_put, e_fits, Tg.put, TgL.puts, e, stC, atI_0, atI_1, atI_2, atI_3, atI_nat', c1, c2', hx, g, ixN, c3]
      · have c2' : ¬ (i : Int) < (sc.length : Int) := by omega
        refine ⟨i, h, s, none, ?_, h0, s0⟩
        rw [← me]
        simp [mkL_f, mkL_t, wipeP, mulOk, lw_l, lw_c, lv_l, lv_c, lv_x, sv_l, sv_c, sv_x, sv_t, lw_i, lw_s, lw_t, lv_s, lv_t, lv_i, lv_n, add_ii, add_ss, add_tt, add_ll, add_lc, add_cl, add_cc, sub_ii, plus_ii, mul_ii, mul_li, fdv_ii, mod_ii, pow_ii, neg_i, sh_i, sh_s, sh_t, sh_l, sh_n, sh_b, sh_c, eq_nn, ne_nn, eq_ni, ne_ni, eq_in, ne_in, eq_nb, ne_nb, eq_bn, ne_bn, eq_ns, ne_ns, eq_sn, ne_sn, eq_ii, ne_ii, eq_bb, ne_bb, eq_ss, ne_ss, eq_is, ne_is, eq_si, ne_si, eq_bs, ne_bs, eq_sb, ne_sb, isn_n, non_n, isn_i, non_i, isn_b, non_b, isn_s, non_s, isn_t, non_t, isn_l, non_l, isn_c, non_c, isn_x, non_x, tru_n, tru_b, tru_i, tru_t, tru_l, notv_b, ix_t, ix_s, ix_l, ix_x, ix_c, ixl_c, sl_t, sl_s, sl_l, sl_c, rev_l, rev_c, len_t, len_l, len_x, len_s, len_c, list_t, list_l, list_x, list_c, tuple_t, tuple_l, tuple_c, int_i, int_b, abs_i, ord_s, isi_n, isi_b, isi_i, isi_s, isi_t, isi_l, isi_c, kindc, max_ii, min_ii, app_c, ext_c, set_c, sidx_ss, cm_ii, cm_ile, cm_igt, cm_ige, isl_l, isl_c, isl_s, iss_s, iss_l, b_ok, b_st, b_ex, o_ok, o_st, o_ex, c_ok, c_st, c_ex, fin_rt, fin_nx, fin_st, nx_nx, nx_rt, nx_bk, nx_ct, nx_ex, nx_st, e_seq, e_var, e_c, e_op, e_un, e_nil, e_cons, e_call, e_tup, e_lst, e_otup, e_olst, e_gd, e_asg, e_drop, e_ret, e_retN, e_next, e_brk, e_cont, e_ifs, e_setS, e_aug, e_augS, e_tru, e_bl, e_and, e_or, e_not, e_andV, e_orV, e_notV, e_if, e_chain, e_nop, e_part, e_sl, e_iSeq, e_iR1, e_iR2, rngOk_of, rngOk2_of, e_for, e_lc, e_yes, e_mt, e_mt2, e_join, e_put, e_fits, Tg.put, TgL.puts, e, stC, atI_0, atI_1, atI_2, c1, c2']
    · refine ⟨i, h, s, none, ?_, h0, s0⟩
      rw [← me]
      simp [mkL_f, mkL_t, wipeP, mulOk, lw_l, lw_c, lv_l, lv_c, lv_x, sv_l, sv_c, sv_x, sv_t, lw_i, lw_s, lw_t, lv_s, lv_t, lv_i, lv_n, add_ii, add_ss, add_tt, add_ll, add_lc, add_cl, add_cc, sub_ii, plus_ii, mul_ii, mul_li, fdv_ii, mod_ii, pow_ii, neg_i, sh_i, sh_s, sh_t, sh_l, sh_n, sh_b, sh_c, eq_nn, ne_nn, eq_ni, ne_ni, eq_in, ne_in, eq_nb, ne_nb, eq_bn, ne_bn, eq_ns, ne_ns, eq_sn, ne_sn, eq_ii, ne_ii, eq_bb, ne_bb, eq_ss, ne_ss, eq_is, ne_is, eq_si, ne_si, eq_bs, ne_bs, eq_sb, ne_sb, isn_n, non_n, isn_i, non_i, isn_b, non_b, isn_s, non_s, isn_t, non_t, isn_l, non_l, isn_c, non_c, isn_x, non_x, tru_n, tru_b, tru_i, tru_t, tru_l, notv_b, ix_t, ix_s, ix_l, ix_x, ix_c, ixl_c, sl_t, sl_s, sl_l, sl_c, rev_l, rev_c, len_t, len_l, len_x, len_s, len_c, list_t, list_l, list_x, list_c, tuple_t, tuple_l, tuple_c, int_i, int_b, abs_i, ord_s, isi_n, isi_b, isi_i, isi_s, isi_t, isi_l, isi_c, kindc, max_ii, min_ii, app_c, ext_c, set_c, sidx_ss, cm_ii, cm_ile, cm_igt, cm_ige, isl_l, isl_c, isl_s, iss_s, iss_l, b_ok, b_st, b_ex, o_ok, o_st, o_ex, c_ok, c_st, c_ex, fin_rt, fin_nx, fin_st, nx_nx, nx_rt, nx_bk, nx_ct, nx_ex, nx_st, e_seq, e_var, e_c, e_op, e_un, e_nil, e_cons, e_call, e_tup, e_lst, e_otup, e_olst, e_gd, e_asg, e_drop, e_ret, e_retN, e_next, e_brk, e_cont, e_ifs, e_setS, e_aug, e_augS, e_tru, e_bl, e_and, e_or, e_not, e_andV, e_orV, e_notV, e_if, e_chain, e_nop, e_part, e_sl, e_iSeq, e_iR1, e_iR2, rngOk_of, rngOk2_of, e_for, e_lc, e_yes, e_mt, e_mt2, e_join, e_put, e_fits, Tg.put, TgL.puts, e, stC, atI_2, c1]
  obtain ⟨i', h', s', o, e1, h1, h2⟩ := s1
  have fin : ∀ r c, P.under m.length (.int r) = true → c.under m.length = true → cutV' m (.int r) (m.set n c) = .ok (.int r) (m.set n c) := fun r c h1 h2 => by
    rw [cut_at (OkCut.refl.set h2) h1, List.take_of_length_le (by rw [List.length_set]; exact Nat.le_refl _)]
  have mod : ∀ a, 0 ≤ a % L ∧ a % L < L := fun a => ⟨Int.emod_nonneg _ (by omega), Int.emod_lt_of_pos _ (by omega)⟩
  by_cases c1 : 0 < h'
  · refine ⟨h' % L, stC sc i' (h' / L) s', ?_, (mod _).1, (mod _).2, ⟨sc, i', _, s', g _, Int.ediv_nonneg h1 (by omega), h2⟩⟩
    unfold f_next fnC fnF fb_next
    have hL2 : L < 4611686018427387904 := hL.2
    simp only [startP, List.map_cons, List.map_nil, List.length_cons, List.length_nil, Nat.zero_add, Nat.reduceAdd, Nat.reduceSub, List.replicate, List.cons_append, List.nil_append]
    rw [e_seq, e1, nx_nx]
    have hu : (stC sc i' (h' / L) s').under m.length = true := stC_under _ _ _ _ _
    have := fin (h' % L) (stC sc i' (h' / L) s') un_int hu
    simp [stC] at this
    simp [mkL_f, mkL_t, wipeP, mulOk, lw_l, lw_c, lv_l, lv_c, lv_x, sv_l, sv_c, sv_x, sv_t, lw_i, lw_s, lw_t, lv_s, lv_t, lv_i, lv_n, add_ii, add_ss, add_tt, add_ll, add_lc, add_cl, add_cc, sub_ii, plus_ii, mul_ii, mul_li, fdv_ii, mod_ii, pow_ii, neg_i, sh_i, sh_s, sh_t, sh_l, sh_n, sh_b, sh_c, eq_nn, ne_nn, eq_ni, ne_ni, eq_in, ne_in, eq_nb, ne_nb, eq_bn, ne_bn, eq_ns, ne_ns, eq_sn, ne_sn, eq_ii, ne_ii, eq_bb, ne_bb, eq_ss, ne_ss, eq_is, ne_is, eq_si, ne_si, eq_bs, ne_bs, eq_sb, ne_sb, isn_n, non_n, isn_i, non_i, isn_b, non_b, isn_s, non_s, isn_t, non_t, isn_l, non_l, isn_c, non_c, isn_x, non_x, tru_n, tru_b, tru_i, tru_t, tru_l, notv_b, ix_t, ix_s, ix_l, ix_x, ix_c, ixl_c, sl_t, sl_s, sl_l, sl_c, rev_l, rev_c, len_t, len_l, len_x, len_s, len_c, list_t, list_l, list_x, list_c, tuple_t, tuple_l, tuple_c, int_i, int_b, abs_i, ord_s, isi_n, isi_b, isi_i, isi_s, isi_t, isi_l, isi_c, kindc, max_ii, min_ii, app_c, ext_c, set_c, sidx_ss, cm_ii, cm_ile, cm_igt, cm_ige, isl_l, isl_c, isl_s, iss_s, iss_l, b_ok, b_st, b_ex, o_ok, o_st, o_ex, c_ok, c_st, c_ex, fin_rt, fin_nx, fin_st, nx_nx, nx_rt, nx_bk, nx_ct, nx_ex, nx_st, e_seq, e_var, e_c, e_op, e_un, e_nil, e_cons, e_call, e_tup, e_lst, e_otup, e_olst, e_gd, e_asg, e_drop, e_ret, e_retN, e_next, e_brk, e_cont, e_ifs, e_setS, e_aug, e_augS, e_tru, e_bl, e_and, e_or, e_not, e_andV, e_orV, e_notV, e_if, e_chain, e_nop, e_part, e_sl, e_iSeq, e_iR1, e_iR2, rngOk_of, rngOk2_of, e_for, e_lc, e_yes, e_mt, e_mt2, e_join, e_put, e_fits, Tg.put, TgL.puts, stC, g, atI_2, c1, ixN, hL.1, hL2, this]
  · refine ⟨(s' * 69621 + 12345) % 2147483647 / 7 % L, stC sc i' h' ((s' * 69621 + 12345) % 2147483647), ?_, (mod _).1, (mod _).2, ⟨sc, i', h', _, g _, h1, by omega⟩⟩
    unfold f_next fnC fnF fb_next
    simp only [startP, List.map_cons, List.map_nil, List.length_cons, List.length_nil, Nat.zero_add, Nat.reduceAdd, Nat.reduceSub, List.replicate, List.cons_append, List.nil_append]
    rw [e_seq, e1, nx_nx]
    have hu : (stC sc i' h' ((s' * 69621 + 12345) % 2147483647)).under m.length = true := stC_under _ _ _ _ _
    have := fin ((s' * 69621 + 12345) % 2147483647 / 7 % L) _ un_int hu
    simp [stC] at this
    simp [mkL_f, mkL_t, wipeP, mulOk, lw_l, lw_c, lv_l, lv_c, lv_x, sv_l, sv_c, sv_x, sv_t, lw_i, lw_s, lw_t, lv_s, lv_t, lv_i, lv_n, add_ii, add_ss, add_tt, add_ll, add_lc, add_cl, add_cc, sub_ii, plus_ii, mul_ii, mul_li, fdv_ii, mod_ii, pow_ii, neg_i, sh_i, sh_s, sh_t, sh_l, sh_n, sh_b, sh_c, eq_nn, ne_nn, eq_ni, ne_ni, eq_in, ne_in, eq_nb, ne_nb, eq_bn, ne_bn, eq_ns, ne_ns, eq_sn, ne_sn, eq_ii, ne_ii, eq_bb, ne_bb, eq_ss, ne_ss, eq_is, ne_is, eq_si, ne_si, eq_bs, ne_bs, eq_sb, ne_sb, isn_n, non_n, isn_i, non_i, isn_b, non_b, isn_s, non_s, isn_t, non_t, isn_l, non_l, isn_c, non_c, isn_x, non_x, tru_n, tru_b, tru_i, tru_t, tru_l, notv_b, ix_t, ix_s, ix_l, ix_x, ix_c, ixl_c, sl_t, sl_s, sl_l, sl_c, rev_l, rev_c, len_t, len_l, len_x, len_s, len_c, list_t, list_l, list_x, list_c, tuple_t, tuple_l, tuple_c, int_i, int_b, abs_i, ord_s, isi_n, isi_b, isi_i, isi_s, isi_t, isi_l, isi_c, kindc, max_ii, min_ii, app_c, ext_c, set_c, sidx_ss, cm_ii, cm_ile, cm_igt, cm_ige, isl_l, isl_c, isl_s, iss_s, iss_l, b_ok, b_st, b_ex, o_ok, o_st, o_ex, c_ok, c_st, c_ex, fin_rt, fin_nx, fin_st, nx_nx, nx_rt, nx_bk, nx_ct, nx_ex, nx_st, e_seq, e_var, e_c, e_op, e_un, e_nil, e_cons, e_call, e_tup, e_lst, e_otup, e_olst, e_gd, e_asg, e_drop, e_ret, e_retN, e_next, e_brk, e_cont, e_ifs, e_setS, e_aug, e_augS, e_tru, e_bl, e_and, e_or, e_not, e_andV, e_orV, e_notV, e_if, e_chain, e_nop, e_part, e_sl, e_iSeq, e_iR1, e_iR2, rngOk_of, rngOk2_of, e_for, e_lc, e_yes, e_mt, e_mt2, e_join, e_put, e_fits, Tg.put, TgL.puts, stC, g, atI_2, atI_3, c1, ixN, hL.1, this]

end
/-! K3 -/
section
open PySem PySem.Spec PyProof.Rows
/-- only the state changes -/
def Stp (n : Nat) (m m' : M) : Prop := (∃ c, m' = m.set n c) ∧ StAt n m'
theorem Stp.refl {n : Nat} {m : M} (h : StAt n m) : Stp n m m := by
  obtain ⟨sc, i, hh, s, e, h0⟩ := id h
  refine ⟨⟨stC sc i hh s, ?_⟩, h⟩
  apply List.ext_getElem?
  intro j
  by_cases q : n = j
  · subst q; rw [List.getElem?_set_self h.lt, e]
  · rw [List.getElem?_set_ne q]
theorem Stp.trans {n : Nat} {m m' m'' : M} (a : Stp n m m') (b : Stp n m' m'') : Stp n m m'' := by
  obtain ⟨⟨c, rfl⟩, _⟩ := a
  obtain ⟨⟨d, rfl⟩, h⟩ := b
  exact ⟨⟨d, List.set_set ..⟩, h⟩
theorem Stp.len {n : Nat} {m m' : M} (a : Stp n m m') : m'.length = m.length := by
  obtain ⟨⟨c, rfl⟩, _⟩ := a
  exact List.length_set
theorem Stp.cut {n : Nat} {m m' : M} (a : Stp n m m') {d : P} (l : M) (hd : P.under m.length d = true) : cutV' m d (m' ++ l) = .ok d m' := by
  have hl := a.len
  obtain ⟨⟨c, rfl⟩, h⟩ := a
  have hn : n < m.length := by have := h.lt; rwa [hl] at this
  obtain ⟨sc, i, hh, s, e, _⟩ := h
  rw [List.getElem?_set_self hn] at e
  cases e
  rw [cut_at ((OkCut.refl.set (stC_under sc i hh s _)).add) hd, ← hl, List.take_left]
theorem Stp.cut0 {n : Nat} {m m' : M} (a : Stp n m m') {d : P} (hd : P.under m.length d = true) : cutV' m d m' = .ok d m' := by
  have := a.cut [] hd
  rwa [List.append_nil] at this
theorem draw {n : Nat} {m m0 : M} (L : Int) (h : Stp n m0 m) (hL : 0 < L ∧ L < 2 ^ 62) : ∃ r m', f_next [.cell n, .int L] m = .ok (.int r) m' ∧ 0 ≤ r ∧ r < L ∧ Stp n m0 m' := by
  obtain ⟨r, c, e, h1, h2, h3⟩ := next_k L h.2 hL
  exact ⟨r, _, e, h1, h2, h.trans ⟨⟨c, rfl⟩, h3⟩⟩
def CHS : Str := " !\"#$&'()*+,-./0123456789:;<=>?@ABCDEFGHIJKLMNOPQRSTUVWXYZ[\\]^_`abcdefghijklmnopqrstuvwxyz{|}~"
theorem characters_k (m : M) : f_characters [] m = .ok (.str CHS) m := by
  unfold f_characters fnC fnF fb_characters
  simp [mkL_f, mkL_t, wipeP, mulOk, lw_l, lw_c, lv_l, lv_c, lv_x, sv_l, sv_c, sv_x, sv_t, lw_i, lw_s, lw_t, lv_s, lv_t, lv_i, lv_n, add_ii, add_ss, add_tt, add_ll, add_lc, add_cl, add_cc, sub_ii, plus_ii, mul_ii, mul_li, fdv_ii, mod_ii, pow_ii, neg_i, sh_i, sh_s, sh_t, sh_l, sh_n, sh_b, sh_c, eq_nn, ne_nn, eq_ni, ne_ni, eq_in, ne_in, eq_nb, ne_nb, eq_bn, ne_bn, eq_ns, ne_ns, eq_sn, ne_sn, eq_ii, ne_ii, eq_bb, ne_bb, eq_ss, ne_ss, eq_is, ne_is, eq_si, ne_si, eq_bs, ne_bs, eq_sb, ne_sb, isn_n, non_n, isn_i, non_i, isn_b, non_b, isn_s, non_s, isn_t, non_t, isn_l, non_l, isn_c, non_c, isn_x, non_x, tru_n, tru_b, tru_i, tru_t, tru_l, notv_b, ix_t, ix_s, ix_l, ix_x, ix_c, ixl_c, sl_t, sl_s, sl_l, sl_c, rev_l, rev_c, len_t, len_l, len_x, len_s, len_c, list_t, list_l, list_x, list_c, tuple_t, tuple_l, tuple_c, int_i, int_b, abs_i, ord_s, isi_n, isi_b, isi_i, isi_s, isi_t, isi_l, isi_c, kindc, max_ii, min_ii, app_c, ext_c, set_c, sidx_ss, cm_ii, cm_ile, cm_igt, cm_ige, isl_l, isl_c, isl_s, iss_s, iss_l, b_ok, b_st, b_ex, o_ok, o_st, o_ex, c_ok, c_st, c_ex, fin_rt, fin_nx, fin_st, nx_nx, nx_rt, nx_bk, nx_ct, nx_ex, nx_st, e_seq, e_var, e_c, e_op, e_un, e_nil, e_cons, e_call, e_tup, e_lst, e_otup, e_olst, e_gd, e_asg, e_drop, e_ret, e_retN, e_next, e_brk, e_cont, e_ifs, e_setS, e_aug, e_augS, e_tru, e_bl, e_and, e_or, e_not, e_andV, e_orV, e_notV, e_if, e_chain, e_nop, e_part, e_sl, e_iSeq, e_iR1, e_iR2, rngOk_of, rngOk2_of, e_for, e_lc, e_yes, e_mt, e_mt2, e_join, e_put, e_fits, Tg.put, TgL.puts, startP, cut_tree0, CHS]
def chr (k : Nat) : Nat := if k < 5 then 32 + k else 33 + k
theorem chs_at : ∀ k : Nat, k < 94 → CHS.cps.toList[k]? = some (chr k) := by decide +kernel
theorem chs_len : CHS.length = 94 := by decide +kernel
theorem chr_good {k : Nat} (h : k < 94) : GoodC (chr k) := by
  unfold GoodC chr
  split <;> omega
theorem join_chars : ∀ l : List Nat, Txt.join ("" : Str) (l.map fun c => ⟨#[c]⟩) = strL l
  | l => by
    have e0 : ("" : Str) = ⟨#[]⟩ := by decide +kernel
    have key : ∀ l : List Nat, Str.join (⟨#[]⟩ : Str) (l.map fun c => ⟨#[c]⟩) = strL l := fun l => by
      induction l with
      | nil => rfl
      | cons c r ih => cases r with
        | nil => rfl
        | cons d r =>
          show (⟨#[c]⟩ : Str) ++ (⟨#[]⟩ : Str) ++ Str.join (⟨#[]⟩ : Str) ((d :: r).map fun c => ⟨#[c]⟩) = strL (c :: d :: r)
          rw [ih]
          show Str.append (Str.append _ _) _ = _
          unfold Str.append strL
          simp
    show PySem.Builtin.Str.glued _ _ = _
    rw [StrLaws.glued_eq_join, e0]
    exact key l
theorem strsP_chars : ∀ l : List Nat, strsP (l.map fun c => .str ⟨#[c]⟩) = some (l.map fun c => ⟨#[c]⟩)
  | [] => by simp [strsP]
  | c :: l => by simp [strsP, strsP_chars l]
theorem sum_chars : ∀ l : List Nat, ((l.map fun c => (⟨#[c]⟩ : Str)).map (·.length)).sum = l.length
  | [] => rfl
  | c :: l => by
    simp only [List.map_cons, List.sum_cons, sum_chars l, List.length_cons]
    show 1 + _ = _
    omega
theorem join_k (x : List Nat) (m : M) (h : x.length ≤ 100000) : oJoin (.str ("" : Str)) (.lst (x.map fun c => .str ⟨#[c]⟩)) m = .ok (.str (strL x)) m := by
  have e0 : ("" : Str).length = 0 := by decide +kernel
  rw [join_l, strsP_chars]
  simp only [sum_chars, e0, Nat.mul_zero, Nat.add_zero, join_chars]
  rw [if_pos (decide_eq_true (by omega))]
theorem lit0 : ("" : Str) = strL [] := by decide +kernel
theorem lit1 : ("a" : Str) = strL [97] := by decide +kernel
theorem lit2 : ("ab" : Str) = strL [97, 98] := by decide +kernel
theorem lit3 : ("z~ 9!#" : Str) = strL [122, 126, 32, 57, 33, 35] := by decide +kernel
instance (v : Kv) : Decidable v.Good := by cases v <;> (unfold Kv.Good; infer_instance)
theorem value_k {n : Nat} {m : M} (hs : StAt n m) : ∃ v m', f_value [.cell n] m = .ok (kp v) m' ∧ v.Good ∧ Stp n m m' := by
  obtain ⟨r, m1, e1, a1, b1, s1⟩ := draw 12 (Stp.refl hs) (by omega)
  unfold f_value fnC fnF fb_value
  by_cases c1 : r < 5
  · have hr : r = 0 ∨ r = 1 ∨ r = 2 ∨ r = 3 ∨ r = 4 := by omega
    rcases hr with rfl | rfl | rfl | rfl | rfl
    · refine ⟨.n 0, m1, ?_, ⟨by decide, by decide⟩, s1⟩
      simp [mkL_f, mkL_t, wipeP, mulOk, lw_l, lw_c, lv_l, lv_c, lv_x, sv_l, sv_c, sv_x, sv_t, lw_i, lw_s, lw_t, lv_s, lv_t, lv_i, lv_n, add_ii, add_ss, add_tt, add_ll, add_lc, add_cl, add_cc, sub_ii, plus_ii, mul_ii, mul_li, fdv_ii, mod_ii, pow_ii, neg_i, sh_i, sh_s, sh_t, sh_l, sh_n, sh_b, sh_c, eq_nn, ne_nn, eq_ni, ne_ni, eq_in, ne_in, eq_nb, ne_nb, eq_bn, ne_bn, eq_ns, ne_ns, eq_sn, ne_sn, eq_ii, ne_ii, eq_bb, ne_bb, eq_ss, ne_ss, eq_is, ne_is, eq_si, ne_si, eq_bs, ne_bs, eq_sb, ne_sb, isn_n, non_n, isn_i, non_i, isn_b, non_b, isn_s, non_s, isn_t, non_t, isn_l, non_l, isn_c, non_c, isn_x, non_x, tru_n, tru_b, tru_i, tru_t, tru_l, notv_b, ix_t, ix_s, ix_l, ix_x, ix_c, ixl_c, sl_t, sl_s, sl_l, sl_c, rev_l, rev_c, len_t, len_l, len_x, len_s, len_c, list_t, list_l, list_x, list_c, tuple_t, tuple_l, tuple_c, int_i, int_b, abs_i, ord_s, isi_n, isi_b, isi_i, isi_s, isi_t, isi_l, isi_c, kindc, max_ii, min_ii, app_c, ext_c, set_c, sidx_ss, cm_ii, cm_ile, cm_igt, cm_ige, isl_l, isl_c, isl_s, iss_s, iss_l, b_ok, b_st, b_ex, o_ok, o_st, o_ex, c_ok, c_st, c_ex, fin_rt, fin_nx, fin_st, nx_nx, nx_rt, nx_bk, nx_ct, nx_ex, nx_st, e_seq, e_var, e_c, e_op, e_un, e_nil, e_cons, e_call, e_tup, e_lst, e_otup, e_olst, e_gd, e_asg, e_drop, e_ret, e_retN, e_next, e_brk, e_cont, e_ifs, e_setS, e_aug, e_augS, e_tru, e_bl, e_and, e_or, e_not, e_andV, e_orV, e_notV, e_if, e_chain, e_nop, e_part, e_sl, e_iSeq, e_iR1, e_iR2, rngOk_of, rngOk2_of, e_for, e_lc, e_yes, e_mt, e_mt2, e_join, e_put, e_fits, Tg.put, TgL.puts, startP, e1, atI, ixN, s1.cut0, kp]
    · refine ⟨.n 1, m1, ?_, ⟨by decide, by decide⟩, s1⟩
      simp [mkL_f, mkL_t, wipeP, mulOk, lw_l, lw_c, lv_l, lv_c, lv_x, sv_l, sv_c, sv_x, sv_t, lw_i, lw_s, lw_t, lv_s, lv_t, lv_i, lv_n, add_ii, add_ss, add_tt, add_ll, add_lc, add_cl, add_cc, sub_ii, plus_ii, mul_ii, mul_li, fdv_ii, mod_ii, pow_ii, neg_i, sh_i, sh_s, sh_t, sh_l, sh_n, sh_b, sh_c, eq_nn, ne_nn, eq_ni, ne_ni, eq_in, ne_in, eq_nb, ne_nb, eq_bn, ne_bn, eq_ns, ne_ns, eq_sn, ne_sn, eq_ii, ne_ii, eq_bb, ne_bb, eq_ss, ne_ss, eq_is, ne_is, eq_si, ne_si, eq_bs, ne_bs, eq_sb, ne_sb, isn_n, non_n, isn_i, non_i, isn_b, non_b, isn_s, non_s, isn_t, non_t, isn_l, non_l, isn_c, non_c, isn_x, non_x, tru_n, tru_b, tru_i, tru_t, tru_l, notv_b, ix_t, ix_s, ix_l, ix_x, ix_c, ixl_c, sl_t, sl_s, sl_l, sl_c, rev_l, rev_c, len_t, len_l, len_x, len_s, len_c, list_t, list_l, list_x, list_c, tuple_t, tuple_l, tuple_c, int_i, int_b, abs_i, ord_s, isi_n, isi_b, isi_i, isi_s, isi_t, isi_l, isi_c, kindc, max_ii, min_ii, app_c, ext_c, set_c, sidx_ss, cm_ii, cm_ile, cm_igt, cm_ige, isl_l, isl_c, isl_s, iss_s, iss_l, b_ok, b_st, b_ex, o_ok, o_st, o_ex, c_ok, c_st, c_ex, fin_rt, fin_nx, fin_st, nx_nx, nx_rt, nx_bk, nx_ct, nx_ex, nx_st, e_seq, e_var, e_c, e_op, e_un, e_nil, e_cons, e_call, e_tup, e_lst, e_otup, e_olst, e_gd, e_asg, e_drop, e_ret, e_retN, e_next, e_brk, e_cont, e_ifs, e_setS, e_aug, e_augS, e_tru, e_bl, e_and, e_or, e_not, e_andV, e_orV, e_notV, e_if, e_chain, e_nop, e_part, e_sl, e_iSeq, e_iR1, e_iR2, rngOk_of, rngOk2_of, e_for, e_lc, e_yes, e_mt, e_mt2, e_join, e_put, e_fits, Tg.put, TgL.puts, startP, e1, atI, ixN, s1.cut0, kp]
    · refine ⟨.n 2, m1, ?_, ⟨by decide, by decide⟩, s1⟩
      simp [mkL_f, mkL_t, wipeP, mulOk, lw_l, lw_c, lv_l, lv_c, lv_x, sv_l, sv_c, sv_x, sv_t, lw_i, lw_s, lw_t, lv_s, lv_t, lv_i, lv_n, add_ii, add_ss, add_tt, add_ll, add_lc, add_cl, add_cc, sub_ii, plus_ii, mul_ii, mul_li, fdv_ii, mod_ii, pow_ii, neg_i, sh_i, sh_s, sh_t, sh_l, sh_n, sh_b, sh_c, eq_nn, ne_nn, eq_ni, ne_ni, eq_in, ne_in, eq_nb, ne_nb, eq_bn, ne_bn, eq_ns, ne_ns, eq_sn, ne_sn, eq_ii, ne_ii, eq_bb, ne_bb, eq_ss, ne_ss, eq_is, ne_is, eq_si, ne_si, eq_bs, ne_bs, eq_sb, ne_sb, isn_n, non_n, isn_i, non_i, isn_b, non_b, isn_s, non_s, isn_t, non_t, isn_l, non_l, isn_c, non_c, isn_x, non_x, tru_n, tru_b, tru_i, tru_t, tru_l, notv_b, ix_t, ix_s, ix_l, ix_x, ix_c, ixl_c, sl_t, sl_s, sl_l, sl_c, rev_l, rev_c, len_t, len_l, len_x, len_s, len_c, list_t, list_l, list_x, list_c, tuple_t, tuple_l, tuple_c, int_i, int_b, abs_i, ord_s, isi_n, isi_b, isi_i, isi_s, isi_t, isi_l, isi_c, kindc, max_ii, min_ii, app_c, ext_c, set_c, sidx_ss, cm_ii, cm_ile, cm_igt, cm_ige, isl_l, isl_c, isl_s, iss_s, iss_l, b_ok, b_st, b_ex, o_ok, o_st, o_ex, c_ok, c_st, c_ex, fin_rt, fin_nx, fin_st, nx_nx, nx_rt, nx_bk, nx_ct, nx_ex, nx_st, e_seq, e_var, e_c, e_op, e_un, e_nil, e_cons, e_call, e_tup, e_lst, e_otup, e_olst, e_gd, e_asg, e_drop, e_ret, e_retN, e_next, e_brk, e_cont, e_ifs, e_setS, e_aug, e_augS, e_tru, e_bl, e_and, e_or, e_not, e_andV, e_orV, e_notV, e_if, e_chain, e_nop, e_part, e_sl, e_iSeq, e_iR1, e_iR2, rngOk_of, rngOk2_of, e_for, e_lc, e_yes, e_mt, e_mt2, e_join, e_put, e_fits, Tg.put, TgL.puts, startP, e1, atI, ixN, s1.cut0, kp]
    · refine ⟨.n (-1), m1, ?_, ⟨by decide, by decide⟩, s1⟩
      simp [mkL_f, mkL_t, wipeP, mulOk, lw_l, lw_c, lv_l, lv_c, lv_x, sv_l, sv_c, sv_x, sv_t, lw_i, lw_s, lw_t, lv_s, lv_t, lv_i, lv_n, add_ii, add_ss, add_tt, add_ll, add_lc, add_cl, add_cc, sub_ii, plus_ii, mul_ii, mul_li, fdv_ii, mod_ii, pow_ii, neg_i, sh_i, sh_s, sh_t, sh_l, sh_n, sh_b, sh_c, eq_nn, ne_nn, eq_ni, ne_ni, eq_in, ne_in, eq_nb, ne_nb, eq_bn, ne_bn, eq_ns, ne_ns, eq_sn, ne_sn, eq_ii, ne_ii, eq_bb, ne_bb, eq_ss, ne_ss, eq_is, ne_is, eq_si, ne_si, eq_bs, ne_bs, eq_sb, ne_sb, isn_n, non_n, isn_i, non_i, isn_b, non_b, isn_s, non_s, isn_t, non_t, isn_l, non_l, isn_c, non_c, isn_x, non_x, tru_n, tru_b, tru_i, tru_t, tru_l, notv_b, ix_t, ix_s, ix_l, ix_x, ix_c, ixl_c, sl_t, sl_s, sl_l, sl_c, rev_l, rev_c, len_t, len_l, len_x, len_s, len_c, list_t, list_l, list_x, list_c, tuple_t, tuple_l, tuple_c, int_i, int_b, abs_i, ord_s, isi_n, isi_b, isi_i, isi_s, isi_t, isi_l, isi_c, kindc, max_ii, min_ii, app_c, ext_c, set_c, sidx_ss, cm_ii, cm_ile, cm_igt, cm_ige, isl_l, isl_c, isl_s, iss_s, iss_l, b_ok, b_st, b_ex, o_ok, o_st, o_ex, c_ok, c_st, c_ex, fin_rt, fin_nx, fin_st, nx_nx, nx_rt, nx_bk, nx_ct, nx_ex, nx_st, e_seq, e_var, e_c, e_op, e_un, e_nil, e_cons, e_call, e_tup, e_lst, e_otup, e_olst, e_gd, e_asg, e_drop, e_ret, e_retN, e_next, e_brk, e_cont, e_ifs, e_setS, e_aug, e_augS, e_tru, e_bl, e_and, e_or, e_not, e_andV, e_orV, e_notV, e_if, e_chain, e_nop, e_part, e_sl, e_iSeq, e_iR1, e_iR2, rngOk_of, rngOk2_of, e_for, e_lc, e_yes, e_mt, e_mt2, e_join, e_put, e_fits, Tg.put, TgL.puts, startP, e1, atI, ixN, s1.cut0, kp]
    · refine ⟨.n 7, m1, ?_, ⟨by decide, by decide⟩, s1⟩
      simp [mkL_f, mkL_t, wipeP, mulOk, lw_l, lw_c, lv_l, lv_c, lv_x, sv_l, sv_c, sv_x, sv_t, lw_i, lw_s, lw_t, lv_s, lv_t, lv_i, lv_n, add_ii, add_ss, add_tt, add_ll, add_lc, add_cl, add_cc, sub_ii, plus_ii, mul_ii, mul_li, fdv_ii, mod_ii, pow_ii, neg_i, sh_i, sh_s, sh_t, sh_l, sh_n, sh_b, sh_c, eq_nn, ne_nn, eq_ni, ne_ni, eq_in, ne_in, eq_nb, ne_nb, eq_bn, ne_bn, eq_ns, ne_ns, eq_sn, ne_sn, eq_ii, ne_ii, eq_bb, ne_bb, eq_ss, ne_ss, eq_is, ne_is, eq_si, ne_si, eq_bs, ne_bs, eq_sb, ne_sb, isn_n, non_n, isn_i, non_i, isn_b, non_b, isn_s, non_s, isn_t, non_t, isn_l, non_l, isn_c, non_c, isn_x, non_x, tru_n, tru_b, tru_i, tru_t, tru_l, notv_b, ix_t, ix_s, ix_l, ix_x, ix_c, ixl_c, sl_t, sl_s, sl_l, sl_c, rev_l, rev_c, len_t, len_l, len_x, len_s, len_c, list_t, list_l, list_x, list_c, tuple_t, tuple_l, tuple_c, int_i, int_b, abs_i, ord_s, isi_n, isi_b, isi_i, isi_s, isi_t, isi_l, isi_c, kindc, max_ii, min_ii, app_c, ext_c, set_c, sidx_ss, cm_ii, cm_ile, cm_igt, cm_ige, isl_l, isl_c, isl_s, iss_s, iss_l, b_ok, b_st, b_ex, o_ok, o_st, o_ex, c_ok, c_st, c_ex, fin_rt, fin_nx, fin_st, nx_nx, nx_rt, nx_bk, nx_ct, nx_ex, nx_st, e_seq, e_var, e_c, e_op, e_un, e_nil, e_cons, e_call, e_tup, e_lst, e_otup, e_olst, e_gd, e_asg, e_drop, e_ret, e_retN, e_next, e_brk, e_cont, e_ifs, e_setS, e_aug, e_augS, e_tru, e_bl, e_and, e_or, e_not, e_andV, e_orV, e_notV, e_if, e_chain, e_nop, e_part, e_sl, e_iSeq, e_iR1, e_iR2, rngOk_of, rngOk2_of, e_for, e_lc, e_yes, e_mt, e_mt2, e_join, e_put, e_fits, Tg.put, TgL.puts, startP, e1, atI, ixN, s1.cut0, kp]
  · by_cases c2 : r = 5
    · subst c2
      obtain ⟨r2, m2, e2, a2, b2, s2⟩ := draw 2 s1 (by omega)
      obtain ⟨r3, m3, e3, a3, b3, s3⟩ := draw 3 s2 (by omega)
      refine ⟨.n ((1 - 2 * r2) * (1000000000 - r3)), m3, ?_, ?_, s3⟩
      · have hr : r2 = 0 ∨ r2 = 1 := by omega
        have k1 : 1000000000 - r3 < 18446744073709551616 := by omega
        rcases hr with rfl | rfl <;> simp [mkL_f, mkL_t, wipeP, mulOk, lw_l, lw_c, lv_l, lv_c, lv_x, sv_l, sv_c, sv_x, sv_t, lw_i, lw_s, lw_t, lv_s, lv_t, lv_i, lv_n, add_ii, add_ss, add_tt, add_ll, add_lc, add_cl, add_cc, sub_ii, plus_ii, mul_ii, mul_li, fdv_ii, mod_ii, pow_ii, neg_i, sh_i, sh_s, sh_t, sh_l, sh_n, sh_b, sh_c, eq_nn, ne_nn, eq_ni, ne_ni, eq_in, ne_in, eq_nb, ne_nb, eq_bn, ne_bn, eq_ns, ne_ns, eq_sn, ne_sn, eq_ii, ne_ii, eq_bb, ne_bb, eq_ss, ne_ss, eq_is, ne_is, eq_si, ne_si, eq_bs, ne_bs, eq_sb, ne_sb, isn_n, non_n, isn_i, non_i, isn_b, non_b, isn_s, non_s, isn_t, non_t, isn_l, non_l, isn_c, non_c, isn_x, non_x, tru_n, tru_b, tru_i, tru_t, tru_l, notv_b, ix_t, ix_s, ix_l, ix_x, ix_c, ixl_c, sl_t, sl_s, sl_l, sl_c, rev_l, rev_c, len_t, len_l, len_x, len_s, len_c, list_t, list_l, list_x, list_c, tuple_t, tuple_l, tuple_c, int_i, int_b, abs_i, ord_s, isi_n, isi_b, isi_i, isi_s, isi_t, isi_l, isi_c, kindc, max_ii, min_ii, app_c, ext_c, set_c, sidx_ss, cm_ii, cm_ile, cm_igt, cm_ige, isl_l, isl_c, isl_s, iss_s, iss_l, b_ok, b_st, b_ex, o_ok, o_st, o_ex, c_ok, c_st, c_ex, fin_rt, fin_nx, fin_st, nx_nx, nx_rt, nx_bk, nx_ct, nx_ex, nx_st, e_seq, e_var, e_c, e_op, e_un, e_nil, e_cons, e_call, e_tup, e_lst, e_otup, e_olst, e_gd, e_asg, e_drop, e_ret, e_retN, e_next, e_brk, e_cont, e_ifs, e_setS, e_aug, e_augS, e_tru, e_bl, e_and, e_or, e_not, e_andV, e_orV, e_notV, e_if, e_chain, e_nop, e_part, e_sl, e_iSeq, e_iR1, e_iR2, rngOk_of, rngOk2_of, e_for, e_lc, e_yes, e_mt, e_mt2, e_join, e_put, e_fits, Tg.put, TgL.puts, startP, e1, e2, e3, s3.cut0, kp]
      · have hr : r2 = 0 ∨ r2 = 1 := by omega
        rcases hr with rfl | rfl <;> (constructor <;> omega)
    · by_cases c3 : r = 6
      · subst c3
        obtain ⟨r2, m2, e2, a2, b2, s2⟩ := draw 2000000001 s1 (by omega)
        refine ⟨.n (r2 - 1000000000), m2, ?_, ⟨by omega, by omega⟩, s2⟩
        simp [mkL_f, mkL_t, wipeP, mulOk, lw_l, lw_c, lv_l, lv_c, lv_x, sv_l, sv_c, sv_x, sv_t, lw_i, lw_s, lw_t, lv_s, lv_t, lv_i, lv_n, add_ii, add_ss, add_tt, add_ll, add_lc, add_cl, add_cc, sub_ii, plus_ii, mul_ii, mul_li, fdv_ii, mod_ii, pow_ii, neg_i, sh_i, sh_s, sh_t, sh_l, sh_n, sh_b, sh_c, eq_nn, ne_nn, eq_ni, ne_ni, eq_in, ne_in, eq_nb, ne_nb, eq_bn, ne_bn, eq_ns, ne_ns, eq_sn, ne_sn, eq_ii, ne_ii, eq_bb, ne_bb, eq_ss, ne_ss, eq_is, ne_is, eq_si, ne_si, eq_bs, ne_bs, eq_sb, ne_sb, isn_n, non_n, isn_i, non_i, isn_b, non_b, isn_s, non_s, isn_t, non_t, isn_l, non_l, isn_c, non_c, isn_x, non_x, tru_n, tru_b, tru_i, tru_t, tru_l, notv_b, ix_t, ix_s, ix_l, ix_x, ix_c, ixl_c, sl_t, sl_s, sl_l, sl_c, rev_l, rev_c, len_t, len_l, len_x, len_s, len_c, list_t, list_l, list_x, list_c, tuple_t, tuple_l, tuple_c, int_i, int_b, abs_i, ord_s, isi_n, isi_b, isi_i, isi_s, isi_t, isi_l, isi_c, kindc, max_ii, min_ii, app_c, ext_c, set_c, sidx_ss, cm_ii, cm_ile, cm_igt, cm_ige, isl_l, isl_c, isl_s, iss_s, iss_l, b_ok, b_st, b_ex, o_ok, o_st, o_ex, c_ok, c_st, c_ex, fin_rt, fin_nx, fin_st, nx_nx, nx_rt, nx_bk, nx_ct, nx_ex, nx_st, e_seq, e_var, e_c, e_op, e_un, e_nil, e_cons, e_call, e_tup, e_lst, e_otup, e_olst, e_gd, e_asg, e_drop, e_ret, e_retN, e_next, e_brk, e_cont, e_ifs, e_setS, e_aug, e_augS, e_tru, e_bl, e_and, e_or, e_not, e_andV, e_orV, e_notV, e_if, e_chain, e_nop, e_part, e_sl, e_iSeq, e_iR1, e_iR2, rngOk_of, rngOk2_of, e_for, e_lc, e_yes, e_mt, e_mt2, e_join, e_put, e_fits, Tg.put, TgL.puts, startP, e1, e2, s2.cut0, kp]
      · by_cases c4 : r < 10
        · obtain ⟨r2, m2, e2, a2, b2, s2⟩ := draw 9 s1 (by omega)
          have hr : r = 7 ∨ r = 8 ∨ r = 9 := by omega
          by_cases h0 : r2 = 0
          · rcases hr with rfl | rfl | rfl
            · refine ⟨.t [122, 126, 32, 57, 33, 35], m2, ?_, by decide, s2⟩
              simp [mkL_f, mkL_t, wipeP, mulOk, lw_l, lw_c, lv_l, lv_c, lv_x, sv_l, sv_c, sv_x, sv_t, lw_i, lw_s, lw_t, lv_s, lv_t, lv_i, lv_n, add_ii, add_ss, add_tt, add_ll, add_lc, add_cl, add_cc, sub_ii, plus_ii, mul_ii, mul_li, fdv_ii, mod_ii, pow_ii, neg_i, sh_i, sh_s, sh_t, sh_l, sh_n, sh_b, sh_c, eq_nn, ne_nn, eq_ni, ne_ni, eq_in, ne_in, eq_nb, ne_nb, eq_bn, ne_bn, eq_ns, ne_ns, eq_sn, ne_sn, eq_ii, ne_ii, eq_bb, ne_bb, eq_ss, ne_ss, eq_is, ne_is, eq_si, ne_si, eq_bs, ne_bs, eq_sb, ne_sb, isn_n, non_n, isn_i, non_i, isn_b, non_b, isn_s, non_s, isn_t, non_t, isn_l, non_l, isn_c, non_c, isn_x, non_x, tru_n, tru_b, tru_i, tru_t, tru_l, notv_b, ix_t, ix_s, ix_l, ix_x, ix_c, ixl_c, sl_t, sl_s, sl_l, sl_c, rev_l, rev_c, len_t, len_l, len_x, len_s, len_c, list_t, list_l, list_x, list_c, tuple_t, tuple_l, tuple_c, int_i, int_b, abs_i, ord_s, isi_n, isi_b, isi_i, isi_s, isi_t, isi_l, isi_c, kindc, max_ii, min_ii, app_c, ext_c, set_c, sidx_ss, cm_ii, cm_ile, cm_igt, cm_ige, isl_l, isl_c, isl_s, iss_s, iss_l, b_ok, b_st, b_ex, o_ok, o_st, o_ex, c_ok, c_st, c_ex, fin_rt, fin_nx, fin_st, nx_nx, nx_rt, nx_bk, nx_ct, nx_ex, nx_st, e_seq, e_var, e_c, e_op, e_un, e_nil, e_cons, e_call, e_tup, e_lst, e_otup, e_olst, e_gd, e_asg, e_drop, e_ret, e_retN, e_next, e_brk, e_cont, e_ifs, e_setS, e_aug, e_augS, e_tru, e_bl, e_and, e_or, e_not, e_andV, e_orV, e_notV, e_if, e_chain, e_nop, e_part, e_sl, e_iSeq, e_iR1, e_iR2, rngOk_of, rngOk2_of, e_for, e_lc, e_yes, e_mt, e_mt2, e_join, e_put, e_fits, Tg.put, TgL.puts, startP, e1, e2, h0, atI, ixN, s2.cut0, lit0, lit1, lit2, lit3, kp]
            · refine ⟨.t [122, 126, 32, 57, 33, 35], m2, ?_, by decide, s2⟩
              simp [mkL_f, mkL_t, wipeP, mulOk, lw_l, lw_c, lv_l, lv_c, lv_x, sv_l, sv_c, sv_x, sv_t, lw_i, lw_s, lw_t, lv_s, lv_t, lv_i, lv_n, add_ii, add_ss, add_tt, add_ll, add_lc, add_cl, add_cc, sub_ii, plus_ii, mul_ii, mul_li, fdv_ii, mod_ii, pow_ii, neg_i, sh_i, sh_s, sh_t, sh_l, sh_n, sh_b, sh_c, eq_nn, ne_nn, eq_ni, ne_ni, eq_in, ne_in, eq_nb, ne_nb, eq_bn, ne_bn, eq_ns, ne_ns, eq_sn, ne_sn, eq_ii, ne_ii, eq_bb, ne_bb, eq_ss, ne_ss, eq_is, ne_is, eq_si, ne_si, eq_bs, ne_bs, eq_sb, ne_sb, isn_n, non_n, isn_i, non_i, isn_b, non_b, isn_s, non_s, isn_t, non_t, isn_l, non_l, isn_c, non_c, isn_x, non_x, tru_n, tru_b, tru_i, tru_t, tru_l, notv_b, ix_t, ix_s, ix_l, ix_x, ix_c, ixl_c, sl_t, sl_s, sl_l, sl_c, rev_l, rev_c, len_t, len_l, len_x, len_s, len_c, list_t, list_l, list_x, list_c, tuple_t, tuple_l, tuple_c, int_i, int_b, abs_i, ord_s, isi_n, isi_b, isi_i, isi_s, isi_t, isi_l, isi_c, kindc, max_ii, min_ii, app_c, ext_c, set_c, sidx_ss, cm_ii, cm_ile, cm_igt, cm_ige, isl_l, isl_c, isl_s, iss_s, iss_l, b_ok, b_st, b_ex, o_ok, o_st, o_ex, c_ok, c_st, c_ex, fin_rt, fin_nx, fin_st, nx_nx, nx_rt, nx_bk, nx_ct, nx_ex, nx_st, e_seq, e_var, e_c, e_op, e_un, e_nil, e_cons, e_call, e_tup, e_lst, e_otup, e_olst, e_gd, e_asg, e_drop, e_ret, e_retN, e_next, e_brk, e_cont, e_ifs, e_setS, e_aug, e_augS, e_tru, e_bl, e_and, e_or, e_not, e_andV, e_orV, e_notV, e_if, e_chain, e_nop, e_part, e_sl, e_iSeq, e_iR1, e_iR2, rngOk_of, rngOk2_of, e_for, e_lc, e_yes, e_mt, e_mt2, e_join, e_put, e_fits, Tg.put, TgL.puts, startP, e1, e2, h0, atI, ixN, s2.cut0, lit0, lit1, lit2, lit3, kp]
            · refine ⟨.t [122, 126, 32, 57, 33, 35], m2, ?_, by decide, s2⟩
              simp [mkL_f, mkL_t, wipeP, mulOk, lw_l, lw_c, lv_l, lv_c, lv_x, sv_l, sv_c, sv_x, sv_t, lw_i, lw_s, lw_t, lv_s, lv_t, lv_i, lv_n, add_ii, add_ss, add_tt, add_ll, add_lc, add_cl, add_cc, sub_ii, plus_ii, mul_ii, mul_li, fdv_ii, mod_ii, pow_ii, neg_i, sh_i, sh_s, sh_t, sh_l, sh_n, sh_b, sh_c, eq_nn, ne_nn, eq_ni, ne_ni, eq_in, ne_in, eq_nb, ne_nb, eq_bn, ne_bn, eq_ns, ne_ns, eq_sn, ne_sn, eq_ii, ne_ii, eq_bb, ne_bb, eq_ss, ne_ss, eq_is, ne_is, eq_si, ne_si, eq_bs, ne_bs, eq_sb, ne_sb, isn_n, non_n, isn_i, non_i, isn_b, non_b, isn_s, non_s, isn_t, non_t, isn_l, non_l, isn_c, non_c, isn_x, non_x, tru_n, tru_b, tru_i, tru_t, tru_l, notv_b, ix_t, ix_s, ix_l, ix_x, ix_c, ixl_c, sl_t, sl_s, sl_l, sl_c, rev_l, rev_c, len_t, len_l, len_x, len_s, len_c, list_t, list_l, list_x, list_c, tuple_t, tuple_l, tuple_c, int_i, int_b, abs_i, ord_s, isi_n, isi_b, isi_i, isi_s, isi_t, isi_l, isi_c, kindc, max_ii, min_ii, app_c, ext_c, set_c, sidx_ss, cm_ii, cm_ile, cm_igt, cm_ige, isl_l, isl_c, isl_s, iss_s, iss_l, b_ok, b_st, b_ex, o_ok, o_st, o_ex, c_ok, c_st, c_ex, fin_rt, fin_nx, fin_st, nx_nx, nx_rt, nx_bk, nx_ct, nx_ex, nx_st, e_seq, e_var, e_c, e_op, e_un, e_nil, e_cons, e_call, e_tup, e_lst, e_otup, e_olst, e_gd, e_asg, e_drop, e_ret, e_retN, e_next, e_brk, e_cont, e_ifs, e_setS, e_aug, e_augS, e_tru, e_bl, e_and, e_or, e_not, e_andV, e_orV, e_notV, e_if, e_chain, e_nop, e_part, e_sl, e_iSeq, e_iR1, e_iR2, rngOk_of, rngOk2_of, e_for, e_lc, e_yes, e_mt, e_mt2, e_join, e_put, e_fits, Tg.put, TgL.puts, startP, e1, e2, h0, atI, ixN, s2.cut0, lit0, lit1, lit2, lit3, kp]
          · rcases hr with rfl | rfl | rfl
            · refine ⟨.t [], m2, ?_, by decide, s2⟩
              simp [mkL_f, mkL_t, wipeP, mulOk, lw_l, lw_c, lv_l, lv_c, lv_x, sv_l, sv_c, sv_x, sv_t, lw_i, lw_s, lw_t, lv_s, lv_t, lv_i, lv_n, add_ii, add_ss, add_tt, add_ll, add_lc, add_cl, add_cc, sub_ii, plus_ii, mul_ii, mul_li, fdv_ii, mod_ii, pow_ii, neg_i, sh_i, sh_s, sh_t, sh_l, sh_n, sh_b, sh_c, eq_nn, ne_nn, eq_ni, ne_ni, eq_in, ne_in, eq_nb, ne_nb, eq_bn, ne_bn, eq_ns, ne_ns, eq_sn, ne_sn, eq_ii, ne_ii, eq_bb, ne_bb, eq_ss, ne_ss, eq_is, ne_is, eq_si, ne_si, eq_bs, ne_bs, eq_sb, ne_sb, isn_n, non_n, isn_i, non_i, isn_b, non_b, isn_s, non_s, isn_t, non_t, isn_l, non_l, isn_c, non_c, isn_x, non_x, tru_n, tru_b, tru_i, tru_t, tru_l, notv_b, ix_t, ix_s, ix_l, ix_x, ix_c, ixl_c, sl_t, sl_s, sl_l, sl_c, rev_l, rev_c, len_t, len_l, len_x, len_s, len_c, list_t, list_l, list_x, list_c, tuple_t, tuple_l, tuple_c, int_i, int_b, abs_i, ord_s, isi_n, isi_b, isi_i, isi_s, isi_t, isi_l, isi_c, kindc, max_ii, min_ii, app_c, ext_c, set_c, sidx_ss, cm_ii, cm_ile, cm_igt, cm_ige, isl_l, isl_c, isl_s, iss_s, iss_l, b_ok, b_st, b_ex, o_ok, o_st, o_ex, c_ok, c_st, c_ex, fin_rt, fin_nx, fin_st, nx_nx, nx_rt, nx_bk, nx_ct, nx_ex, nx_st, e_seq, e_var, e_c, e_op, e_un, e_nil, e_cons, e_call, e_tup, e_lst, e_otup, e_olst, e_gd, e_asg, e_drop, e_ret, e_retN, e_next, e_brk, e_cont, e_ifs, e_setS, e_aug, e_augS, e_tru, e_bl, e_and, e_or, e_not, e_andV, e_orV, e_notV, e_if, e_chain, e_nop, e_part, e_sl, e_iSeq, e_iR1, e_iR2, rngOk_of, rngOk2_of, e_for, e_lc, e_yes, e_mt, e_mt2, e_join, e_put, e_fits, Tg.put, TgL.puts, startP, e1, e2, h0, atI, ixN, s2.cut0, lit0, lit1, lit2, lit3, kp]
            · refine ⟨.t [97], m2, ?_, by decide, s2⟩
              simp [mkL_f, mkL_t, wipeP, mulOk, lw_l, lw_c, lv_l, lv_c, lv_x, sv_l, sv_c, sv_x, sv_t, lw_i, lw_s, lw_t, lv_s, lv_t, lv_i, lv_n, add_ii, add_ss, add_tt, add_ll, add_lc, add_cl, add_cc, sub_ii, plus_ii, mul_ii, mul_li, fdv_ii, mod_ii, pow_ii, neg_i, sh_i, sh_s, sh_t, sh_l, sh_n, sh_b, sh_c, eq_nn, ne_nn, eq_ni, ne_ni, eq_in, ne_in, eq_nb, ne_nb, eq_bn, ne_bn, eq_ns, ne_ns, eq_sn, ne_sn, eq_ii, ne_ii, eq_bb, ne_bb, eq_ss, ne_ss, eq_is, ne_is, eq_si, ne_si, eq_bs, ne_bs, eq_sb, ne_sb, isn_n, non_n, isn_i, non_i, isn_b, non_b, isn_s, non_s, isn_t, non_t, isn_l, non_l, isn_c, non_c, isn_x, non_x, tru_n, tru_b, tru_i, tru_t, tru_l, notv_b, ix_t, ix_s, ix_l, ix_x, ix_c, ixl_c, sl_t, sl_s, sl_l, sl_c, rev_l, rev_c, len_t, len_l, len_x, len_s, len_c, list_t, list_l, list_x, list_c, tuple_t, tuple_l, tuple_c, int_i, int_b, abs_i, ord_s, isi_n, isi_b, isi_i, isi_s, isi_t, isi_l, isi_c, kindc, max_ii, min_ii, app_c, ext_c, set_c, sidx_ss, cm_ii, cm_ile, cm_igt, cm_ige, isl_l, isl_c, isl_s, iss_s, iss_l, b_ok, b_st, b_ex, o_ok, o_st, o_ex, c_ok, c_st, c_ex, fin_rt, fin_nx, fin_st, nx_nx, nx_rt, nx_bk, nx_ct, nx_ex, nx_st, e_seq, e_var, e_c, e_op, e_un, e_nil, e_cons, e_call, e_tup, e_lst, e_otup, e_olst, e_gd, e_asg, e_drop, e_ret, e_retN, e_next, e_brk, e_cont, e_ifs, e_setS, e_aug, e_augS, e_tru, e_bl, e_and, e_or, e_not, e_andV, e_orV, e_notV, e_if, e_chain, e_nop, e_part, e_sl, e_iSeq, e_iR1, e_iR2, rngOk_of, rngOk2_of, e_for, e_lc, e_yes, e_mt, e_mt2, e_join, e_put, e_fits, Tg.put, TgL.puts, startP, e1, e2, h0, atI, ixN, s2.cut0, lit0, lit1, lit2, lit3, kp]
            · refine ⟨.t [97, 98], m2, ?_, by decide, s2⟩
              simp [mkL_f, mkL_t, wipeP, mulOk, lw_l, lw_c, lv_l, lv_c, lv_x, sv_l, sv_c, sv_x, sv_t, lw_i, lw_s, lw_t, lv_s, lv_t, lv_i, lv_n, add_ii, add_ss, add_tt, add_ll, add_lc, add_cl, add_cc, sub_ii, plus_ii, mul_ii, mul_li, fdv_ii, mod_ii, pow_ii, neg_i, sh_i, sh_s, sh_t, sh_l, sh_n, sh_b, sh_c, eq_nn, ne_nn, eq_ni, ne_ni, eq_in, ne_in, eq_nb, ne_nb, eq_bn, ne_bn, eq_ns, ne_ns, eq_sn, ne_sn, eq_ii, ne_ii, eq_bb, ne_bb, eq_ss, ne_ss, eq_is, ne_is, eq_si, ne_si, eq_bs, ne_bs, eq_sb, ne_sb, isn_n, non_n, isn_i, non_i, isn_b, non_b, isn_s, non_s, isn_t, non_t, isn_l, non_l, isn_c, non_c, isn_x, non_x, tru_n, tru_b, tru_i, tru_t, tru_l, notv_b, ix_t, ix_s, ix_l, ix_x, ix_c, ixl_c, sl_t, sl_s, sl_l, sl_c, rev_l, rev_c, len_t, len_l, len_x, len_s, len_c, list_t, list_l, list_x, list_c, tuple_t, tuple_l, tuple_c, int_i, int_b, abs_i, ord_s, isi_n, isi_b, isi_i, isi_s, isi_t, isi_l, isi_c, kindc, max_ii, min_ii, app_c, ext_c, set_c, sidx_ss, cm_ii, cm_ile, cm_igt, cm_ige, isl_l, isl_c, isl_s, iss_s, iss_l, b_ok, b_st, b_ex, o_ok, o_st, o_ex, c_ok, c_st, c_ex, fin_rt, fin_nx, fin_st, nx_nx, nx_rt, nx_bk, nx_ct, nx_ex, nx_st, e_seq, e_var, e_c, e_op, e_un, e_nil, e_cons, e_call, e_tup, e_lst, e_otup, e_olst, e_gd, e_asg, e_drop, e_ret, e_retN, e_next, e_brk, e_cont, e_ifs, e_setS, e_aug, e_augS, e_tru, e_bl, e_and, e_or, e_not, e_andV, e_orV, e_notV, e_if, e_chain, e_nop, e_part, e_sl, e_iSeq, e_iR1, e_iR2, rngOk_of, rngOk2_of, e_for, e_lc, e_yes, e_mt, e_mt2, e_join, e_put, e_fits, Tg.put, TgL.puts, startP, e1, e2, h0, atI, ixN, s2.cut0, lit0, lit1, lit2, lit3, kp]
        · obtain ⟨a, m2, e2, a2, b2, s2⟩ := draw 94 s1 (by omega)
          obtain ⟨b, m3, e3, a3, b3, s3⟩ := draw 94 s2 (by omega)
          obtain ⟨k, m4, e4, a4, b4, s4⟩ := draw 7 s3 (by omega)
          have hx : ∃ x : List Nat, lcG (.name 4) fYes (fOp oIx (fCall (gd 0 f_characters) fNil) (fOp oMod (fOp (oAdd false) (fVar 2) (fOp (oMul false) (fVar 3) (fVar 4))) (fC (.int 94)))) [] [some (.cell n), some (.int r), some (.int a), some (.int b), none] (rngP 0 k.toNat) m4 = .ok (x.map fun c => .str ⟨#[c]⟩) m4 ∧ x.length = k.toNat ∧ ∀ c ∈ x, GoodC c := by
            refine ⟨(List.range k.toNat).map fun j : Nat => chr ((a + b * j) % 94).toNat, ?_, by simp, fun c hc => ?_⟩
            · rw [List.map_map]
              refine lcG_map (xs := List.range k.toNat) (f := fun i : Nat => .int (0 + (i : Int))) fun j hj => ?_
              obtain ⟨q, hq⟩ : ∃ q : Nat, ((a + b * (j : Int)) % 94) = (q : Int) := ⟨((a + b * j) % 94).toNat, by omega⟩
              have hq2 : q < 94 := by omega
              have k1 : b < 18446744073709551616 := by omega
              have k2 : -18446744073709551616 < b := by omega
              simp [mkL_f, mkL_t, wipeP, mulOk, lw_l, lw_c, lv_l, lv_c, lv_x, sv_l, sv_c, sv_x, sv_t, lw_i, lw_s, lw_t, lv_s, lv_t, lv_i, lv_n, add_ii, add_ss, add_tt, add_ll, add_lc, add_cl, add_cc, sub_ii, plus_ii, mul_ii, mul_li, fdv_ii, mod_ii, pow_ii, neg_i, sh_i, sh_s, sh_t, sh_l, sh_n, sh_b, sh_c, eq_nn, ne_nn, eq_ni, ne_ni, eq_in, ne_in, eq_nb, ne_nb, eq_bn, ne_bn, eq_ns, ne_ns, eq_sn, ne_sn, eq_ii, ne_ii, eq_bb, ne_bb, eq_ss, ne_ss, eq_is, ne_is, eq_si, ne_si, eq_bs, ne_bs, eq_sb, ne_sb, isn_n, non_n, isn_i, non_i, isn_b, non_b, isn_s, non_s, isn_t, non_t, isn_l, non_l, isn_c, non_c, isn_x, non_x, tru_n, tru_b, tru_i, tru_t, tru_l, notv_b, ix_t, ix_s, ix_l, ix_x, ix_c, ixl_c, sl_t, sl_s, sl_l, sl_c, rev_l, rev_c, len_t, len_l, len_x, len_s, len_c, list_t, list_l, list_x, list_c, tuple_t, tuple_l, tuple_c, int_i, int_b, abs_i, ord_s, isi_n, isi_b, isi_i, isi_s, isi_t, isi_l, isi_c, kindc, max_ii, min_ii, app_c, ext_c, set_c, sidx_ss, cm_ii, cm_ile, cm_igt, cm_ige, isl_l, isl_c, isl_s, iss_s, iss_l, b_ok, b_st, b_ex, o_ok, o_st, o_ex, c_ok, c_st, c_ex, fin_rt, fin_nx, fin_st, nx_nx, nx_rt, nx_bk, nx_ct, nx_ex, nx_st, e_seq, e_var, e_c, e_op, e_un, e_nil, e_cons, e_call, e_tup, e_lst, e_otup, e_olst, e_gd, e_asg, e_drop, e_ret, e_retN, e_next, e_brk, e_cont, e_ifs, e_setS, e_aug, e_augS, e_tru, e_bl, e_and, e_or, e_not, e_andV, e_orV, e_notV, e_if, e_chain, e_nop, e_part, e_sl, e_iSeq, e_iR1, e_iR2, rngOk_of, rngOk2_of, e_for, e_lc, e_yes, e_mt, e_mt2, e_join, e_put, e_fits, Tg.put, TgL.puts, characters_k, chs_len, hq, atI_nat', chs_at q hq2, k1, k2]
            · obtain ⟨j, _, rfl⟩ := List.mem_map.mp hc
              exact chr_good (by omega)
          obtain ⟨x, h1, h2, h3⟩ := hx
          refine ⟨.t x, m4, ?_, ⟨by omega, h3⟩, s4⟩
          have k1 : k ≤ 100000 := by omega
          have k2 : (0 : Int) ≤ k := a4
          have k3 : k.toNat ≤ 100000 := by omega
          have k4 : (rngP 0 k.toNat).length ≤ 100000 := by simp [rngP]; omega
          have k5 : x.length ≤ 16777216 := by omega
          simp [mkL_f, mkL_t, wipeP, mulOk, lw_l, lw_c, lv_l, lv_c, lv_x, sv_l, sv_c, sv_x, sv_t, lw_i, lw_s, lw_t, lv_s, lv_t, lv_i, lv_n, add_ii, add_ss, add_tt, add_ll, add_lc, add_cl, add_cc, sub_ii, plus_ii, mul_ii, mul_li, fdv_ii, mod_ii, pow_ii, neg_i, sh_i, sh_s, sh_t, sh_l, sh_n, sh_b, sh_c, eq_nn, ne_nn, eq_ni, ne_ni, eq_in, ne_in, eq_nb, ne_nb, eq_bn, ne_bn, eq_ns, ne_ns, eq_sn, ne_sn, eq_ii, ne_ii, eq_bb, ne_bb, eq_ss, ne_ss, eq_is, ne_is, eq_si, ne_si, eq_bs, ne_bs, eq_sb, ne_sb, isn_n, non_n, isn_i, non_i, isn_b, non_b, isn_s, non_s, isn_t, non_t, isn_l, non_l, isn_c, non_c, isn_x, non_x, tru_n, tru_b, tru_i, tru_t, tru_l, notv_b, ix_t, ix_s, ix_l, ix_x, ix_c, ixl_c, sl_t, sl_s, sl_l, sl_c, rev_l, rev_c, len_t, len_l, len_x, len_s, len_c, list_t, list_l, list_x, list_c, tuple_t, tuple_l, tuple_c, int_i, int_b, abs_i, ord_s, isi_n, isi_b, isi_i, isi_s, isi_t, isi_l, isi_c, kindc, max_ii, min_ii, app_c, ext_c, set_c, sidx_ss, cm_ii, cm_ile, cm_igt, cm_ige, isl_l, isl_c, isl_s, iss_s, iss_l, b_ok, b_st, b_ex, o_ok, o_st, o_ex, c_ok, c_st, c_ex, fin_rt, fin_nx, fin_st, nx_nx, nx_rt, nx_bk, nx_ct, nx_ex, nx_st, e_seq, e_var, e_c, e_op, e_un, e_nil, e_cons, e_call, e_tup, e_lst, e_otup, e_olst, e_gd, e_asg, e_drop, e_ret, e_retN, e_next, e_brk, e_cont, e_ifs, e_setS, e_aug, e_augS, e_tru, e_bl, e_and, e_or, e_not, e_andV, e_orV, e_notV, e_if, e_chain, e_nop, e_part, e_sl, e_iSeq, e_iR1, e_iR2, rngOk_of, rngOk2_of, e_for, e_lc, e_yes, e_mt, e_mt2, e_join, e_put, e_fits, Tg.put, TgL.puts, startP, e1, e2, e3, e4, c1, c2, c3, c4, h1, k1, k2, k3, k4, join_k x _ (by omega), s4.cut0, kp]
/-! ### the law's own bytes -/
theorem chs_index : ∀ k : Nat, k < 94 → Builtin.Str.occurrences CHS ⟨#[chr k]⟩ 0 CHS.length 1 = [k] := by decide +kernel
theorem good_chr {c : Nat} (h : GoodC c) : ∃ k, k < 94 ∧ c = chr k := by
  unfold GoodC at h
  by_cases h1 : c < 37
  · exact ⟨c - 32, by omega, by unfold chr; rw [if_pos (by omega)]; omega⟩
  · exact ⟨c - 33, by omega, by unfold chr; rw [if_neg (by omega)]; omega⟩

end
/-! K4 -/
section
open PySem PySem.Spec PyProof.Rows
theorem lbytes_k {vs : List Kv} (h : ∀ v ∈ vs, v.Good) (hl : vs.length ≤ 1000) (m : M) : f_bytes [.tup (vs.map kp)] m = .ok (ip (keyB vs)) m := by
  have loop : ∀ (ws : List Kv) (acc : List Int) (a : P) (o2 o3 o4 o5 o6 o7 : Option P), (∀ v ∈ ws, v.Good) → acc.length + 8 * ws.length ≤ 90000 →
      ∃ p2 p3 p4 p5 p6 p7, forG (.name 2) (fIfS (fTru (fCall oIsi (fCons (fVar 2) (fCons (fC (.ty "str")) fNil)))) (fSeq (fAsg (.name 3) (fCall (gd 0 f_characters) fNil))
  (fAsg (.name 1) (fOp (oAdd false) (fOp (oAdd false) (fOp (oAdd false) (fVar 1) (fLst false (fCons (fC (.int 2)) fNil))) (fLc false (iSeq (fVar 2)) (.name 7) fYes (fOp (oAdd false) (fOp (oAdd false) (fC (.int 32)) (fMt2 isL isS oLIndex oSIndex (fVar 3) (fCons (fVar 7) fNil))) (fCall oInt (fCons (fOp (oCm .gt) (fMt2 isL isS oLIndex oSIndex (fVar 3) (fCons (fVar 7) fNil)) (fC (.int 4))) fNil))) [7])) (fLst false (fCons (fC (.int 0)) fNil))))) (fSeq (fAsg (.name 4) (fOp (oAdd false) (fVar 2) (fC (.int 549755813888))))
  (fSeq (fAsg (.name 5) (fLst false fNil))
  (fSeq (fFor (iR1 (fCons (fC (.int 5)) fNil)) (.name 6) (fSeq (fAsg (.name 5) (fOp (oAdd false) (fLst false (fCons (fOp oMod (fCall oInt (fCons (fVar 4) fNil)) (fC (.int 256))) fNil)) (fVar 5)))
  (fAsg (.name 4) (fOp oFdv (fVar 4) (fC (.int 256))))))
  (fAsg (.name 1) (fOp (oAdd false) (fOp (oAdd false) (fVar 1) (fLst false (fCons (fC (.int 1)) fNil))) (fVar 5))))))) [] (ws.map kp) [some a, some (.lst (acc.map .int)), o2, o3, o4, o5, o6, o7] m = .nx [some a, some (.lst ((acc ++ keyB ws).map .int)), p2, p3, p4, p5, p6, p7] m := by
    intro ws
    induction ws with
    | nil => intro acc a o2 o3 o4 o5 o6 o7 _ _; exact ⟨o2, o3, o4, o5, o6, o7, by simp [forG_nil, keyB]⟩
    | cons v ws ih =>
      intro acc a o2 o3 o4 o5 o6 o7 hg hl
      have hv := hg v List.mem_cons_self
      have h1 := kb_len8 hv
      simp only [List.length_cons] at hl
      have ih' := fun a o2 o3 o4 o5 o6 o7 => ih (acc ++ kb v) a o2 o3 o4 o5 o6 o7 (fun w hw => hg w (List.mem_cons_of_mem _ hw)) (by simp only [List.length_append]; omega)
      rw [List.map_cons, forG_cons]
      cases v with
      | n i =>
        obtain ⟨p2, p3, p4, p5, p6, p7, hp⟩ := ih' a (some (.int i)) o3 (some (.int ((i + 549755813888) / 1099511627776))) (some (.lst ((dig5 (i + 549755813888)).map .int))) (some (.int 4)) o7
        refine ⟨p2, p3, p4, p5, p6, p7, ?_⟩
        have k1 : acc.length + 1 ≤ 100000 := by omega
        have k2 : acc.length ≤ 99999 := by omega
        have k3 : acc.length + 1 + 5 ≤ 100000 := by omega
        have k4 : acc.length ≤ 99994 := by omega
        have d2 : (i + 549755813888) / 256 / 256 = (i + 549755813888) / 65536 := by omega
        have d3 : (i + 549755813888) / 65536 / 256 = (i + 549755813888) / 16777216 := by omega
        have d4 : (i + 549755813888) / 16777216 / 256 = (i + 549755813888) / 4294967296 := by omega
        have d5 : (i + 549755813888) / 4294967296 / 256 = (i + 549755813888) / 1099511627776 := by omega
        simp [keyB, kb, dig5] at hp
        simp [mkL_f, mkL_t, wipeP, mulOk, lw_l, lw_c, lv_l, lv_c, lv_x, sv_l, sv_c, sv_x, sv_t, lw_i, lw_s, lw_t, lv_s, lv_t, lv_i, lv_n, add_ii, add_ss, add_tt, add_ll, add_lc, add_cl, add_cc, sub_ii, plus_ii, mul_ii, mul_li, fdv_ii, mod_ii, pow_ii, neg_i, sh_i, sh_s, sh_t, sh_l, sh_n, sh_b, sh_c, eq_nn, ne_nn, eq_ni, ne_ni, eq_in, ne_in, eq_nb, ne_nb, eq_bn, ne_bn, eq_ns, ne_ns, eq_sn, ne_sn, eq_ii, ne_ii, eq_bb, ne_bb, eq_ss, ne_ss, eq_is, ne_is, eq_si, ne_si, eq_bs, ne_bs, eq_sb, ne_sb, isn_n, non_n, isn_i, non_i, isn_b, non_b, isn_s, non_s, isn_t, non_t, isn_l, non_l, isn_c, non_c, isn_x, non_x, tru_n, tru_b, tru_i, tru_t, tru_l, notv_b, ix_t, ix_s, ix_l, ix_x, ix_c, ixl_c, sl_t, sl_s, sl_l, sl_c, rev_l, rev_c, len_t, len_l, len_x, len_s, len_c, list_t, list_l, list_x, list_c, tuple_t, tuple_l, tuple_c, int_i, int_b, abs_i, ord_s, isi_n, isi_b, isi_i, isi_s, isi_t, isi_l, isi_c, kindc, max_ii, min_ii, app_c, ext_c, set_c, sidx_ss, cm_ii, cm_ile, cm_igt, cm_ige, isl_l, isl_c, isl_s, iss_s, iss_l, b_ok, b_st, b_ex, o_ok, o_st, o_ex, c_ok, c_st, c_ex, fin_rt, fin_nx, fin_st, nx_nx, nx_rt, nx_bk, nx_ct, nx_ex, nx_st, e_seq, e_var, e_c, e_op, e_un, e_nil, e_cons, e_call, e_tup, e_lst, e_otup, e_olst, e_gd, e_asg, e_drop, e_ret, e_retN, e_next, e_brk, e_cont, e_ifs, e_setS, e_aug, e_augS, e_tru, e_bl, e_and, e_or, e_not, e_andV, e_orV, e_notV, e_if, e_chain, e_nop, e_part, e_sl, e_iSeq, e_iR1, e_iR2, rngOk_of, rngOk2_of, e_for, e_lc, e_yes, e_mt, e_mt2, e_join, e_put, e_fits, Tg.put, TgL.puts, kp, rngP, List.range_succ, forG_cons, forG_nil, k1, k2, k3, k4, d2, d3, d4, d5, keyB, kb, dig5]
        exact hp
      | t x =>
        obtain ⟨p2, p3, p4, p5, p6, p7, hp⟩ := ih' a (some (.str (strL x))) (some (.str CHS)) o4 o5 o6 o7
        refine ⟨p2, p3, p4, p5, p6, p7, ?_⟩
        have hm : lcG (.name 7) fYes (fOp (oAdd false) (fOp (oAdd false) (fC (.int 32)) (fMt2 isL isS oLIndex oSIndex (fVar 3) (fCons (fVar 7) fNil))) (fCall oInt (fCons (fOp (oCm .gt) (fMt2 isL isS oLIndex oSIndex (fVar 3) (fCons (fVar 7) fNil)) (fC (.int 4))) fNil))) [] [some a, some (.lst (acc.map .int)), some (.str (strL x)), some (.str CHS), o4, o5, o6, none] (x.map fun c => .str ⟨#[c]⟩) m = .ok (x.map fun (c : Nat) => .int (c : Int)) m :=
          lcG_map fun c hc => by
            obtain ⟨k, hk, rfl⟩ := good_chr (hv.2 c hc)
            have := chs_index k hk
            by_cases h4 : k < 5
            · have h5 : ¬ (4 < (k : Int)) := by omega
              have e : chr k = 32 + k := if_pos h4
              rw [e] at this ⊢
              simp [mkL_f, mkL_t, wipeP, mulOk, lw_l, lw_c, lv_l, lv_c, lv_x, sv_l, sv_c, sv_x, sv_t, lw_i, lw_s, lw_t, lv_s, lv_t, lv_i, lv_n, add_ii, add_ss, add_tt, add_ll, add_lc, add_cl, add_cc, sub_ii, plus_ii, mul_ii, mul_li, fdv_ii, mod_ii, pow_ii, neg_i, sh_i, sh_s, sh_t, sh_l, sh_n, sh_b, sh_c, eq_nn, ne_nn, eq_ni, ne_ni, eq_in, ne_in, eq_nb, ne_nb, eq_bn, ne_bn, eq_ns, ne_ns, eq_sn, ne_sn, eq_ii, ne_ii, eq_bb, ne_bb, eq_ss, ne_ss, eq_is, ne_is, eq_si, ne_si, eq_bs, ne_bs, eq_sb, ne_sb, isn_n, non_n, isn_i, non_i, isn_b, non_b, isn_s, non_s, isn_t, non_t, isn_l, non_l, isn_c, non_c, isn_x, non_x, tru_n, tru_b, tru_i, tru_t, tru_l, notv_b, ix_t, ix_s, ix_l, ix_x, ix_c, ixl_c, sl_t, sl_s, sl_l, sl_c, rev_l, rev_c, len_t, len_l, len_x, len_s, len_c, list_t, list_l, list_x, list_c, tuple_t, tuple_l, tuple_c, int_i, int_b, abs_i, ord_s, isi_n, isi_b, isi_i, isi_s, isi_t, isi_l, isi_c, kindc, max_ii, min_ii, app_c, ext_c, set_c, sidx_ss, cm_ii, cm_ile, cm_igt, cm_ige, isl_l, isl_c, isl_s, iss_s, iss_l, b_ok, b_st, b_ex, o_ok, o_st, o_ex, c_ok, c_st, c_ex, fin_rt, fin_nx, fin_st, nx_nx, nx_rt, nx_bk, nx_ct, nx_ex, nx_st, e_seq, e_var, e_c, e_op, e_un, e_nil, e_cons, e_call, e_tup, e_lst, e_otup, e_olst, e_gd, e_asg, e_drop, e_ret, e_retN, e_next, e_brk, e_cont, e_ifs, e_setS, e_aug, e_augS, e_tru, e_bl, e_and, e_or, e_not, e_andV, e_orV, e_notV, e_if, e_chain, e_nop, e_part, e_sl, e_iSeq, e_iR1, e_iR2, rngOk_of, rngOk2_of, e_for, e_lc, e_yes, e_mt, e_mt2, e_join, e_put, e_fits, Tg.put, TgL.puts, this, h5]
            · have h5 : 4 < (k : Int) := by omega
              have e : chr k = 33 + k := if_neg h4
              rw [e] at this ⊢
              simp [mkL_f, mkL_t, wipeP, mulOk, lw_l, lw_c, lv_l, lv_c, lv_x, sv_l, sv_c, sv_x, sv_t, lw_i, lw_s, lw_t, lv_s, lv_t, lv_i, lv_n, add_ii, add_ss, add_tt, add_ll, add_lc, add_cl, add_cc, sub_ii, plus_ii, mul_ii, mul_li, fdv_ii, mod_ii, pow_ii, neg_i, sh_i, sh_s, sh_t, sh_l, sh_n, sh_b, sh_c, eq_nn, ne_nn, eq_ni, ne_ni, eq_in, ne_in, eq_nb, ne_nb, eq_bn, ne_bn, eq_ns, ne_ns, eq_sn, ne_sn, eq_ii, ne_ii, eq_bb, ne_bb, eq_ss, ne_ss, eq_is, ne_is, eq_si, ne_si, eq_bs, ne_bs, eq_sb, ne_sb, isn_n, non_n, isn_i, non_i, isn_b, non_b, isn_s, non_s, isn_t, non_t, isn_l, non_l, isn_c, non_c, isn_x, non_x, tru_n, tru_b, tru_i, tru_t, tru_l, notv_b, ix_t, ix_s, ix_l, ix_x, ix_c, ixl_c, sl_t, sl_s, sl_l, sl_c, rev_l, rev_c, len_t, len_l, len_x, len_s, len_c, list_t, list_l, list_x, list_c, tuple_t, tuple_l, tuple_c, int_i, int_b, abs_i, ord_s, isi_n, isi_b, isi_i, isi_s, isi_t, isi_l, isi_c, kindc, max_ii, min_ii, app_c, ext_c, set_c, sidx_ss, cm_ii, cm_ile, cm_igt, cm_ige, isl_l, isl_c, isl_s, iss_s, iss_l, b_ok, b_st, b_ex, o_ok, o_st, o_ex, c_ok, c_st, c_ex, fin_rt, fin_nx, fin_st, nx_nx, nx_rt, nx_bk, nx_ct, nx_ex, nx_st, e_seq, e_var, e_c, e_op, e_un, e_nil, e_cons, e_call, e_tup, e_lst, e_otup, e_olst, e_gd, e_asg, e_drop, e_ret, e_retN, e_next, e_brk, e_cont, e_ifs, e_setS, e_aug, e_augS, e_tru, e_bl, e_and, e_or, e_not, e_andV, e_orV, e_notV, e_if, e_chain, e_nop, e_part, e_sl, e_iSeq, e_iR1, e_iR2, rngOk_of, rngOk2_of, e_for, e_lc, e_yes, e_mt, e_mt2, e_join, e_put, e_fits, Tg.put, TgL.puts, this, h5]
              omega
        have hx := hv.1
        have k1 : acc.length + 1 ≤ 100000 := by omega
        have k2 : acc.length ≤ 99999 := by omega
        have k5 : x.length ≤ 100000 := by omega
        have k3 : acc.length + 1 + x.length ≤ 100000 := by omega
        have k6 : acc.length + 1 + x.length + 1 ≤ 100000 := by omega
        have k7 : acc.length + (x.length + 1) ≤ 100000 := by omega
        have k8 : acc.length + (x.length + 1) ≤ 99999 := by omega
        simp [keyB, kb, Function.comp_def] at hp
        simp [mkL_f, mkL_t, wipeP, mulOk, lw_l, lw_c, lv_l, lv_c, lv_x, sv_l, sv_c, sv_x, sv_t, lw_i, lw_s, lw_t, lv_s, lv_t, lv_i, lv_n, add_ii, add_ss, add_tt, add_ll, add_lc, add_cl, add_cc, sub_ii, plus_ii, mul_ii, mul_li, fdv_ii, mod_ii, pow_ii, neg_i, sh_i, sh_s, sh_t, sh_l, sh_n, sh_b, sh_c, eq_nn, ne_nn, eq_ni, ne_ni, eq_in, ne_in, eq_nb, ne_nb, eq_bn, ne_bn, eq_ns, ne_ns, eq_sn, ne_sn, eq_ii, ne_ii, eq_bb, ne_bb, eq_ss, ne_ss, eq_is, ne_is, eq_si, ne_si, eq_bs, ne_bs, eq_sb, ne_sb, isn_n, non_n, isn_i, non_i, isn_b, non_b, isn_s, non_s, isn_t, non_t, isn_l, non_l, isn_c, non_c, isn_x, non_x, tru_n, tru_b, tru_i, tru_t, tru_l, notv_b, ix_t, ix_s, ix_l, ix_x, ix_c, ixl_c, sl_t, sl_s, sl_l, sl_c, rev_l, rev_c, len_t, len_l, len_x, len_s, len_c, list_t, list_l, list_x, list_c, tuple_t, tuple_l, tuple_c, int_i, int_b, abs_i, ord_s, isi_n, isi_b, isi_i, isi_s, isi_t, isi_l, isi_c, kindc, max_ii, min_ii, app_c, ext_c, set_c, sidx_ss, cm_ii, cm_ile, cm_igt, cm_ige, isl_l, isl_c, isl_s, iss_s, iss_l, b_ok, b_st, b_ex, o_ok, o_st, o_ex, c_ok, c_st, c_ex, fin_rt, fin_nx, fin_st, nx_nx, nx_rt, nx_bk, nx_ct, nx_ex, nx_st, e_seq, e_var, e_c, e_op, e_un, e_nil, e_cons, e_call, e_tup, e_lst, e_otup, e_olst, e_gd, e_asg, e_drop, e_ret, e_retN, e_next, e_brk, e_cont, e_ifs, e_setS, e_aug, e_augS, e_tru, e_bl, e_and, e_or, e_not, e_andV, e_orV, e_notV, e_if, e_chain, e_nop, e_part, e_sl, e_iSeq, e_iR1, e_iR2, rngOk_of, rngOk2_of, e_for, e_lc, e_yes, e_mt, e_mt2, e_join, e_put, e_fits, Tg.put, TgL.puts, kp, characters_k, strL_cps, hm, k1, k2, k3, k5, k6, k7, k8, keyB, kb, strL_len, Function.comp_def]
        exact hp
  obtain ⟨p2, p3, p4, p5, p6, p7, hp⟩ := loop vs [] (.tup (vs.map kp)) none none none none none none h (by simp; omega)
  simp at hp
  unfold f_bytes fnC fnF fb_bytes
  simp [mkL_f, mkL_t, wipeP, mulOk, lw_l, lw_c, lv_l, lv_c, lv_x, sv_l, sv_c, sv_x, sv_t, lw_i, lw_s, lw_t, lv_s, lv_t, lv_i, lv_n, add_ii, add_ss, add_tt, add_ll, add_lc, add_cl, add_cc, sub_ii, plus_ii, mul_ii, mul_li, fdv_ii, mod_ii, pow_ii, neg_i, sh_i, sh_s, sh_t, sh_l, sh_n, sh_b, sh_c, eq_nn, ne_nn, eq_ni, ne_ni, eq_in, ne_in, eq_nb, ne_nb, eq_bn, ne_bn, eq_ns, ne_ns, eq_sn, ne_sn, eq_ii, ne_ii, eq_bb, ne_bb, eq_ss, ne_ss, eq_is, ne_is, eq_si, ne_si, eq_bs, ne_bs, eq_sb, ne_sb, isn_n, non_n, isn_i, non_i, isn_b, non_b, isn_s, non_s, isn_t, non_t, isn_l, non_l, isn_c, non_c, isn_x, non_x, tru_n, tru_b, tru_i, tru_t, tru_l, notv_b, ix_t, ix_s, ix_l, ix_x, ix_c, ixl_c, sl_t, sl_s, sl_l, sl_c, rev_l, rev_c, len_t, len_l, len_x, len_s, len_c, list_t, list_l, list_x, list_c, tuple_t, tuple_l, tuple_c, int_i, int_b, abs_i, ord_s, isi_n, isi_b, isi_i, isi_s, isi_t, isi_l, isi_c, kindc, max_ii, min_ii, app_c, ext_c, set_c, sidx_ss, cm_ii, cm_ile, cm_igt, cm_ige, isl_l, isl_c, isl_s, iss_s, iss_l, b_ok, b_st, b_ex, o_ok, o_st, o_ex, c_ok, c_st, c_ex, fin_rt, fin_nx, fin_st, nx_nx, nx_rt, nx_bk, nx_ct, nx_ex, nx_st, e_seq, e_var, e_c, e_op, e_un, e_nil, e_cons, e_call, e_tup, e_lst, e_otup, e_olst, e_gd, e_asg, e_drop, e_ret, e_retN, e_next, e_brk, e_cont, e_ifs, e_setS, e_aug, e_augS, e_tru, e_bl, e_and, e_or, e_not, e_andV, e_orV, e_notV, e_if, e_chain, e_nop, e_part, e_sl, e_iSeq, e_iR1, e_iR2, rngOk_of, rngOk2_of, e_for, e_lc, e_yes, e_mt, e_mt2, e_join, e_put, e_fits, Tg.put, TgL.puts, startP, hp, cut_tree0, ip]

end
/-! K5 -/
section
open PySem PySem.Spec PyProof.Rows
/-! ### same -/
inductive Sm : Nat → P → Prop
  | non (n) : Sm n .non
  | int (n i) : Sm n (.int i)
  | bl (n b) : Sm n (.bl b)
  | str (n x) : Sm n (.str x)
  | tup {n xs} : xs.length ≤ 100000 → (∀ x ∈ xs, Sm n x) → Sm (n + 1) (.tup xs)
  | lst {n xs} : xs.length ≤ 100000 → (∀ x ∈ xs, Sm n x) → Sm (n + 1) (.lst xs)
theorem Sm.mono {n : Nat} : ∀ {d : P}, Sm n d → Sm (n + 1) d := by
  induction n with
  | zero => intro d h; cases h <;> constructor
  | succ n ih =>
    intro d h
    cases h with
    | non => exact .non _
    | int => exact .int _ _
    | bl => exact .bl _ _
    | str => exact .str _ _
    | tup h1 h2 => exact .tup h1 fun x hx => ih (h2 x hx)
    | lst h1 h2 => exact .lst h1 fun x hx => ih (h2 x hx)
theorem same_loop {n : Nat} {m : M} {d e : P} (xs : List P) (hs : ∀ x ∈ xs, f_same n [x, x] m = .ok (.bl true) m) (hd : ∀ (i : Nat) x, xs[i]? = some x → oIx d (.int i) m = .ok x m) (he : ∀ (i : Nat) x, xs[i]? = some x → oIx e (.int i) m = .ok x m) :
    ∀ (k j : Nat) (o : Option P), j + k = xs.length → ∃ o', forG (.name 2) (fIfS (fNot (fTru (fCall (gd 2 (f_same n)) (fCons (fOp oIx (fVar 0) (fVar 2)) (fCons (fOp oIx (fVar 1) (fVar 2)) fNil))))) (fRet (fC (.bl false))) fNext) [] ((List.range' j k).map fun (i : Nat) => .int (i : Int)) [some d, some e, o] m = .nx [some d, some e, o'] m
  | 0, j, o, _ => ⟨o, by simp [forG_nil]⟩
  | k + 1, j, o, h => by
    have hj : j < xs.length := by omega
    have hx := List.getElem?_eq_getElem hj
    obtain ⟨o', ho⟩ := same_loop xs hs hd he k (j + 1) (some (.int j)) (by omega)
    refine ⟨o', ?_⟩
    have h1 := hs _ (List.getElem_mem hj)
    rw [List.range'_succ, List.map_cons, forG_cons]
    simp [mkL_f, mkL_t, wipeP, mulOk, lw_l, lw_c, lv_l, lv_c, lv_x, sv_l, sv_c, sv_x, sv_t, lw_i, lw_s, lw_t, lv_s, lv_t, lv_i, lv_n, add_ii, add_ss, add_tt, add_ll, add_lc, add_cl, add_cc, sub_ii, plus_ii, mul_ii, mul_li, fdv_ii, mod_ii, pow_ii, neg_i, sh_i, sh_s, sh_t, sh_l, sh_n, sh_b, sh_c, eq_nn, ne_nn, eq_ni, ne_ni, eq_in, ne_in, eq_nb, ne_nb, eq_bn, ne_bn, eq_ns, ne_ns, eq_sn, ne_sn, eq_ii, ne_ii, eq_bb, ne_bb, eq_ss, ne_ss, eq_is, ne_is, eq_si, ne_si, eq_bs, ne_bs, eq_sb, ne_sb, isn_n, non_n, isn_i, non_i, isn_b, non_b, isn_s, non_s, isn_t, non_t, isn_l, non_l, isn_c, non_c, isn_x, non_x, tru_n, tru_b, tru_i, tru_t, tru_l, notv_b, ix_t, ix_s, ix_l, ix_x, ix_c, ixl_c, sl_t, sl_s, sl_l, sl_c, rev_l, rev_c, len_t, len_l, len_x, len_s, len_c, list_t, list_l, list_x, list_c, tuple_t, tuple_l, tuple_c, int_i, int_b, abs_i, ord_s, isi_n, isi_b, isi_i, isi_s, isi_t, isi_l, isi_c, kindc, max_ii, min_ii, app_c, ext_c, set_c, sidx_ss, cm_ii, cm_ile, cm_igt, cm_ige, isl_l, isl_c, isl_s, iss_s, iss_l, b_ok, b_st, b_ex, o_ok, o_st, o_ex, c_ok, c_st, c_ex, fin_rt, fin_nx, fin_st, nx_nx, nx_rt, nx_bk, nx_ct, nx_ex, nx_st, e_seq, e_var, e_c, e_op, e_un, e_nil, e_cons, e_call, e_tup, e_lst, e_otup, e_olst, e_gd, e_asg, e_drop, e_ret, e_retN, e_next, e_brk, e_cont, e_ifs, e_setS, e_aug, e_augS, e_tru, e_bl, e_and, e_or, e_not, e_andV, e_orV, e_notV, e_if, e_chain, e_nop, e_part, e_sl, e_iSeq, e_iR1, e_iR2, rngOk_of, rngOk2_of, e_for, e_lc, e_yes, e_mt, e_mt2, e_join, e_put, e_fits, Tg.put, TgL.puts, hd j _ hx, he j _ hx, h1]
    exact ho
theorem rngP_eq (n : Nat) : rngP 0 n = (List.range' 0 n).map fun (i : Nat) => .int (i : Int) := by
  unfold rngP
  rw [List.range_eq_range']
  simp
theorem f_same_s (n : Nat) : f_same (n + 1) = fnC true 3 (fb_same (fun _ => f_same n) n) := rfl
theorem same_non (n : Nat) (m : M) : f_same (n + 1) [.non, .non] m = .ok (.bl true) m := by
  rw [f_same_s]; unfold fnC fnF fb_same; simp [mkL_f, mkL_t, wipeP, mulOk, lw_l, lw_c, lv_l, lv_c, lv_x, sv_l, sv_c, sv_x, sv_t, lw_i, lw_s, lw_t, lv_s, lv_t, lv_i, lv_n, add_ii, add_ss, add_tt, add_ll, add_lc, add_cl, add_cc, sub_ii, plus_ii, mul_ii, mul_li, fdv_ii, mod_ii, pow_ii, neg_i, sh_i, sh_s, sh_t, sh_l, sh_n, sh_b, sh_c, eq_nn, ne_nn, eq_ni, ne_ni, eq_in, ne_in, eq_nb, ne_nb, eq_bn, ne_bn, eq_ns, ne_ns, eq_sn, ne_sn, eq_ii, ne_ii, eq_bb, ne_bb, eq_ss, ne_ss, eq_is, ne_is, eq_si, ne_si, eq_bs, ne_bs, eq_sb, ne_sb, isn_n, non_n, isn_i, non_i, isn_b, non_b, isn_s, non_s, isn_t, non_t, isn_l, non_l, isn_c, non_c, isn_x, non_x, tru_n, tru_b, tru_i, tru_t, tru_l, notv_b, ix_t, ix_s, ix_l, ix_x, ix_c, ixl_c, sl_t, sl_s, sl_l, sl_c, rev_l, rev_c, len_t, len_l, len_x, len_s, len_c, list_t, list_l, list_x, list_c, tuple_t, tuple_l, tuple_c, int_i, int_b, abs_i, ord_s, isi_n, isi_b, isi_i, isi_s, isi_t, isi_l, isi_c, kindc, max_ii, min_ii, app_c, ext_c, set_c, sidx_ss, cm_ii, cm_ile, cm_igt, cm_ige, isl_l, isl_c, isl_s, iss_s, iss_l, b_ok, b_st, b_ex, o_ok, o_st, o_ex, c_ok, c_st, c_ex, fin_rt, fin_nx, fin_st, nx_nx, nx_rt, nx_bk, nx_ct, nx_ex, nx_st, e_seq, e_var, e_c, e_op, e_un, e_nil, e_cons, e_call, e_tup, e_lst, e_otup, e_olst, e_gd, e_asg, e_drop, e_ret, e_retN, e_next, e_brk, e_cont, e_ifs, e_setS, e_aug, e_augS, e_tru, e_bl, e_and, e_or, e_not, e_andV, e_orV, e_notV, e_if, e_chain, e_nop, e_part, e_sl, e_iSeq, e_iR1, e_iR2, rngOk_of, rngOk2_of, e_for, e_lc, e_yes, e_mt, e_mt2, e_join, e_put, e_fits, Tg.put, TgL.puts, startP, cut_tree0]
theorem same_int (n : Nat) (m : M) (i : Int) : f_same (n + 1) [.int i, .int i] m = .ok (.bl true) m := by
  rw [f_same_s]; unfold fnC fnF fb_same; simp [mkL_f, mkL_t, wipeP, mulOk, lw_l, lw_c, lv_l, lv_c, lv_x, sv_l, sv_c, sv_x, sv_t, lw_i, lw_s, lw_t, lv_s, lv_t, lv_i, lv_n, add_ii, add_ss, add_tt, add_ll, add_lc, add_cl, add_cc, sub_ii, plus_ii, mul_ii, mul_li, fdv_ii, mod_ii, pow_ii, neg_i, sh_i, sh_s, sh_t, sh_l, sh_n, sh_b, sh_c, eq_nn, ne_nn, eq_ni, ne_ni, eq_in, ne_in, eq_nb, ne_nb, eq_bn, ne_bn, eq_ns, ne_ns, eq_sn, ne_sn, eq_ii, ne_ii, eq_bb, ne_bb, eq_ss, ne_ss, eq_is, ne_is, eq_si, ne_si, eq_bs, ne_bs, eq_sb, ne_sb, isn_n, non_n, isn_i, non_i, isn_b, non_b, isn_s, non_s, isn_t, non_t, isn_l, non_l, isn_c, non_c, isn_x, non_x, tru_n, tru_b, tru_i, tru_t, tru_l, notv_b, ix_t, ix_s, ix_l, ix_x, ix_c, ixl_c, sl_t, sl_s, sl_l, sl_c, rev_l, rev_c, len_t, len_l, len_x, len_s, len_c, list_t, list_l, list_x, list_c, tuple_t, tuple_l, tuple_c, int_i, int_b, abs_i, ord_s, isi_n, isi_b, isi_i, isi_s, isi_t, isi_l, isi_c, kindc, max_ii, min_ii, app_c, ext_c, set_c, sidx_ss, cm_ii, cm_ile, cm_igt, cm_ige, isl_l, isl_c, isl_s, iss_s, iss_l, b_ok, b_st, b_ex, o_ok, o_st, o_ex, c_ok, c_st, c_ex, fin_rt, fin_nx, fin_st, nx_nx, nx_rt, nx_bk, nx_ct, nx_ex, nx_st, e_seq, e_var, e_c, e_op, e_un, e_nil, e_cons, e_call, e_tup, e_lst, e_otup, e_olst, e_gd, e_asg, e_drop, e_ret, e_retN, e_next, e_brk, e_cont, e_ifs, e_setS, e_aug, e_augS, e_tru, e_bl, e_and, e_or, e_not, e_andV, e_orV, e_notV, e_if, e_chain, e_nop, e_part, e_sl, e_iSeq, e_iR1, e_iR2, rngOk_of, rngOk2_of, e_for, e_lc, e_yes, e_mt, e_mt2, e_join, e_put, e_fits, Tg.put, TgL.puts, startP, cut_tree0]
theorem same_bl (n : Nat) (m : M) (i : Bool) : f_same (n + 1) [.bl i, .bl i] m = .ok (.bl true) m := by
  rw [f_same_s]; unfold fnC fnF fb_same; simp [mkL_f, mkL_t, wipeP, mulOk, lw_l, lw_c, lv_l, lv_c, lv_x, sv_l, sv_c, sv_x, sv_t, lw_i, lw_s, lw_t, lv_s, lv_t, lv_i, lv_n, add_ii, add_ss, add_tt, add_ll, add_lc, add_cl, add_cc, sub_ii, plus_ii, mul_ii, mul_li, fdv_ii, mod_ii, pow_ii, neg_i, sh_i, sh_s, sh_t, sh_l, sh_n, sh_b, sh_c, eq_nn, ne_nn, eq_ni, ne_ni, eq_in, ne_in, eq_nb, ne_nb, eq_bn, ne_bn, eq_ns, ne_ns, eq_sn, ne_sn, eq_ii, ne_ii, eq_bb, ne_bb, eq_ss, ne_ss, eq_is, ne_is, eq_si, ne_si, eq_bs, ne_bs, eq_sb, ne_sb, isn_n, non_n, isn_i, non_i, isn_b, non_b, isn_s, non_s, isn_t, non_t, isn_l, non_l, isn_c, non_c, isn_x, non_x, tru_n, tru_b, tru_i, tru_t, tru_l, notv_b, ix_t, ix_s, ix_l, ix_x, ix_c, ixl_c, sl_t, sl_s, sl_l, sl_c, rev_l, rev_c, len_t, len_l, len_x, len_s, len_c, list_t, list_l, list_x, list_c, tuple_t, tuple_l, tuple_c, int_i, int_b, abs_i, ord_s, isi_n, isi_b, isi_i, isi_s, isi_t, isi_l, isi_c, kindc, max_ii, min_ii, app_c, ext_c, set_c, sidx_ss, cm_ii, cm_ile, cm_igt, cm_ige, isl_l, isl_c, isl_s, iss_s, iss_l, b_ok, b_st, b_ex, o_ok, o_st, o_ex, c_ok, c_st, c_ex, fin_rt, fin_nx, fin_st, nx_nx, nx_rt, nx_bk, nx_ct, nx_ex, nx_st, e_seq, e_var, e_c, e_op, e_un, e_nil, e_cons, e_call, e_tup, e_lst, e_otup, e_olst, e_gd, e_asg, e_drop, e_ret, e_retN, e_next, e_brk, e_cont, e_ifs, e_setS, e_aug, e_augS, e_tru, e_bl, e_and, e_or, e_not, e_andV, e_orV, e_notV, e_if, e_chain, e_nop, e_part, e_sl, e_iSeq, e_iR1, e_iR2, rngOk_of, rngOk2_of, e_for, e_lc, e_yes, e_mt, e_mt2, e_join, e_put, e_fits, Tg.put, TgL.puts, startP, cut_tree0]
theorem same_str (n : Nat) (m : M) (i : Str) : f_same (n + 1) [.str i, .str i] m = .ok (.bl true) m := by
  rw [f_same_s]; unfold fnC fnF fb_same; simp [mkL_f, mkL_t, wipeP, mulOk, lw_l, lw_c, lv_l, lv_c, lv_x, sv_l, sv_c, sv_x, sv_t, lw_i, lw_s, lw_t, lv_s, lv_t, lv_i, lv_n, add_ii, add_ss, add_tt, add_ll, add_lc, add_cl, add_cc, sub_ii, plus_ii, mul_ii, mul_li, fdv_ii, mod_ii, pow_ii, neg_i, sh_i, sh_s, sh_t, sh_l, sh_n, sh_b, sh_c, eq_nn, ne_nn, eq_ni, ne_ni, eq_in, ne_in, eq_nb, ne_nb, eq_bn, ne_bn, eq_ns, ne_ns, eq_sn, ne_sn, eq_ii, ne_ii, eq_bb, ne_bb, eq_ss, ne_ss, eq_is, ne_is, eq_si, ne_si, eq_bs, ne_bs, eq_sb, ne_sb, isn_n, non_n, isn_i, non_i, isn_b, non_b, isn_s, non_s, isn_t, non_t, isn_l, non_l, isn_c, non_c, isn_x, non_x, tru_n, tru_b, tru_i, tru_t, tru_l, notv_b, ix_t, ix_s, ix_l, ix_x, ix_c, ixl_c, sl_t, sl_s, sl_l, sl_c, rev_l, rev_c, len_t, len_l, len_x, len_s, len_c, list_t, list_l, list_x, list_c, tuple_t, tuple_l, tuple_c, int_i, int_b, abs_i, ord_s, isi_n, isi_b, isi_i, isi_s, isi_t, isi_l, isi_c, kindc, max_ii, min_ii, app_c, ext_c, set_c, sidx_ss, cm_ii, cm_ile, cm_igt, cm_ige, isl_l, isl_c, isl_s, iss_s, iss_l, b_ok, b_st, b_ex, o_ok, o_st, o_ex, c_ok, c_st, c_ex, fin_rt, fin_nx, fin_st, nx_nx, nx_rt, nx_bk, nx_ct, nx_ex, nx_st, e_seq, e_var, e_c, e_op, e_un, e_nil, e_cons, e_call, e_tup, e_lst, e_otup, e_olst, e_gd, e_asg, e_drop, e_ret, e_retN, e_next, e_brk, e_cont, e_ifs, e_setS, e_aug, e_augS, e_tru, e_bl, e_and, e_or, e_not, e_andV, e_orV, e_notV, e_if, e_chain, e_nop, e_part, e_sl, e_iSeq, e_iR1, e_iR2, rngOk_of, rngOk2_of, e_for, e_lc, e_yes, e_mt, e_mt2, e_join, e_put, e_fits, Tg.put, TgL.puts, startP, cut_tree0]
theorem same_tup (n : Nat) (m : M) (xs : List P) (h1 : xs.length ≤ 100000) (hs : ∀ x ∈ xs, f_same n [x, x] m = .ok (.bl true) m) : f_same (n + 1) [.tup xs, .tup xs] m = .ok (.bl true) m := by
  obtain ⟨o', ho⟩ := same_loop (n := n) (m := m) (d := .tup xs) (e := .tup xs) xs hs (fun i x hx => by simp [mkL_f, mkL_t, wipeP, mulOk, lw_l, lw_c, lv_l, lv_c, lv_x, sv_l, sv_c, sv_x, sv_t, lw_i, lw_s, lw_t, lv_s, lv_t, lv_i, lv_n, add_ii, add_ss, add_tt, add_ll, add_lc, add_cl, add_cc, sub_ii, plus_ii, mul_ii, mul_li, fdv_ii, mod_ii, pow_ii, neg_i, sh_i, sh_s, sh_t, sh_l, sh_n, sh_b, sh_c, eq_nn, ne_nn, eq_ni, ne_ni, eq_in, ne_in, eq_nb, ne_nb, eq_bn, ne_bn, eq_ns, ne_ns, eq_sn, ne_sn, eq_ii, ne_ii, eq_bb, ne_bb, eq_ss, ne_ss, eq_is, ne_is, eq_si, ne_si, eq_bs, ne_bs, eq_sb, ne_sb, isn_n, non_n, isn_i, non_i, isn_b, non_b, isn_s, non_s, isn_t, non_t, isn_l, non_l, isn_c, non_c, isn_x, non_x, tru_n, tru_b, tru_i, tru_t, tru_l, notv_b, ix_t, ix_s, ix_l, ix_x, ix_c, ixl_c, sl_t, sl_s, sl_l, sl_c, rev_l, rev_c, len_t, len_l, len_x, len_s, len_c, list_t, list_l, list_x, list_c, tuple_t, tuple_l, tuple_c, int_i, int_b, abs_i, ord_s, isi_n, isi_b, isi_i, isi_s, isi_t, isi_l, isi_c, kindc, max_ii, min_ii, app_c, ext_c, set_c, sidx_ss, cm_ii, cm_ile, cm_igt, cm_ige, isl_l, isl_c, isl_s, iss_s, iss_l, b_ok, b_st, b_ex, o_ok, o_st, o_ex, c_ok, c_st, c_ex, fin_rt, fin_nx, fin_st, nx_nx, nx_rt, nx_bk, nx_ct, nx_ex, nx_st, e_seq, e_var, e_c, e_op, e_un, e_nil, e_cons, e_call, e_tup, e_lst, e_otup, e_olst, e_gd, e_asg, e_drop, e_ret, e_retN, e_next, e_brk, e_cont, e_ifs, e_setS, e_aug, e_augS, e_tru, e_bl, e_and, e_or, e_not, e_andV, e_orV, e_notV, e_if, e_chain, e_nop, e_part, e_sl, e_iSeq, e_iR1, e_iR2, rngOk_of, rngOk2_of, e_for, e_lc, e_yes, e_mt, e_mt2, e_join, e_put, e_fits, Tg.put, TgL.puts, atI_nat', hx]) (fun i x hx => by simp [mkL_f, mkL_t, wipeP, mulOk, lw_l, lw_c, lv_l, lv_c, lv_x, sv_l, sv_c, sv_x, sv_t, lw_i, lw_s, lw_t, lv_s, lv_t, lv_i, lv_n, add_ii, add_ss, add_tt, add_ll, add_lc, add_cl, add_cc, sub_ii, plus_ii, mul_ii, mul_li, fdv_ii, mod_ii, pow_ii, neg_i, sh_i, sh_s, sh_t, sh_l, sh_n, sh_b, sh_c, eq_nn, ne_nn, eq_ni, ne_ni, eq_in, ne_in, eq_nb, ne_nb, eq_bn, ne_bn, eq_ns, ne_ns, eq_sn, ne_sn, eq_ii, ne_ii, eq_bb, ne_bb, eq_ss, ne_ss, eq_is, ne_is, eq_si, ne_si, eq_bs, ne_bs, eq_sb, ne_sb, isn_n, non_n, isn_i, non_i, isn_b, non_b, isn_s, non_s, isn_t, non_t, isn_l, non_l, isn_c, non_c, isn_x, non_x, tru_n, tru_b, tru_i, tru_t, tru_l, notv_b, ix_t, ix_s, ix_l, ix_x, ix_c, ixl_c, sl_t, sl_s, sl_l, sl_c, rev_l, rev_c, len_t, len_l, len_x, len_s, len_c, list_t, list_l, list_x, list_c, tuple_t, tuple_l, tuple_c, int_i, int_b, abs_i, ord_s, isi_n, isi_b, isi_i, isi_s, isi_t, isi_l, isi_c, kindc, max_ii, min_ii, app_c, ext_c, set_c, sidx_ss, cm_ii, cm_ile, cm_igt, cm_ige, isl_l, isl_c, isl_s, iss_s, iss_l, b_ok, b_st, b_ex, o_ok, o_st, o_ex, c_ok, c_st, c_ex, fin_rt, fin_nx, fin_st, nx_nx, nx_rt, nx_bk, nx_ct, nx_ex, nx_st, e_seq, e_var, e_c, e_op, e_un, e_nil, e_cons, e_call, e_tup, e_lst, e_otup, e_olst, e_gd, e_asg, e_drop, e_ret, e_retN, e_next, e_brk, e_cont, e_ifs, e_setS, e_aug, e_augS, e_tru, e_bl, e_and, e_or, e_not, e_andV, e_orV, e_notV, e_if, e_chain, e_nop, e_part, e_sl, e_iSeq, e_iR1, e_iR2, rngOk_of, rngOk2_of, e_for, e_lc, e_yes, e_mt, e_mt2, e_join, e_put, e_fits, Tg.put, TgL.puts, atI_nat', hx]) xs.length 0 none (by omega)
  have k1 : (xs.length : Int) ≤ 100000 := by omega
  rw [f_same_s]; unfold fnC fnF fb_same
  simp [mkL_f, mkL_t, wipeP, mulOk, lw_l, lw_c, lv_l, lv_c, lv_x, sv_l, sv_c, sv_x, sv_t, lw_i, lw_s, lw_t, lv_s, lv_t, lv_i, lv_n, add_ii, add_ss, add_tt, add_ll, add_lc, add_cl, add_cc, sub_ii, plus_ii, mul_ii, mul_li, fdv_ii, mod_ii, pow_ii, neg_i, sh_i, sh_s, sh_t, sh_l, sh_n, sh_b, sh_c, eq_nn, ne_nn, eq_ni, ne_ni, eq_in, ne_in, eq_nb, ne_nb, eq_bn, ne_bn, eq_ns, ne_ns, eq_sn, ne_sn, eq_ii, ne_ii, eq_bb, ne_bb, eq_ss, ne_ss, eq_is, ne_is, eq_si, ne_si, eq_bs, ne_bs, eq_sb, ne_sb, isn_n, non_n, isn_i, non_i, isn_b, non_b, isn_s, non_s, isn_t, non_t, isn_l, non_l, isn_c, non_c, isn_x, non_x, tru_n, tru_b, tru_i, tru_t, tru_l, notv_b, ix_t, ix_s, ix_l, ix_x, ix_c, ixl_c, sl_t, sl_s, sl_l, sl_c, rev_l, rev_c, len_t, len_l, len_x, len_s, len_c, list_t, list_l, list_x, list_c, tuple_t, tuple_l, tuple_c, int_i, int_b, abs_i, ord_s, isi_n, isi_b, isi_i, isi_s, isi_t, isi_l, isi_c, kindc, max_ii, min_ii, app_c, ext_c, set_c, sidx_ss, cm_ii, cm_ile, cm_igt, cm_ige, isl_l, isl_c, isl_s, iss_s, iss_l, b_ok, b_st, b_ex, o_ok, o_st, o_ex, c_ok, c_st, c_ex, fin_rt, fin_nx, fin_st, nx_nx, nx_rt, nx_bk, nx_ct, nx_ex, nx_st, e_seq, e_var, e_c, e_op, e_un, e_nil, e_cons, e_call, e_tup, e_lst, e_otup, e_olst, e_gd, e_asg, e_drop, e_ret, e_retN, e_next, e_brk, e_cont, e_ifs, e_setS, e_aug, e_augS, e_tru, e_bl, e_and, e_or, e_not, e_andV, e_orV, e_notV, e_if, e_chain, e_nop, e_part, e_sl, e_iSeq, e_iR1, e_iR2, rngOk_of, rngOk2_of, e_for, e_lc, e_yes, e_mt, e_mt2, e_join, e_put, e_fits, Tg.put, TgL.puts, startP, h1, k1, rngP_eq, ho, cut_tree0]
theorem same_lst (n : Nat) (m : M) (xs : List P) (h1 : xs.length ≤ 100000) (hs : ∀ x ∈ xs, f_same n [x, x] m = .ok (.bl true) m) : f_same (n + 1) [.lst xs, .lst xs] m = .ok (.bl true) m := by
  obtain ⟨o', ho⟩ := same_loop (n := n) (m := m) (d := .lst xs) (e := .lst xs) xs hs (fun i x hx => by simp [mkL_f, mkL_t, wipeP, mulOk, lw_l, lw_c, lv_l, lv_c, lv_x, sv_l, sv_c, sv_x, sv_t, lw_i, lw_s, lw_t, lv_s, lv_t, lv_i, lv_n, add_ii, add_ss, add_tt, add_ll, add_lc, add_cl, add_cc, sub_ii, plus_ii, mul_ii, mul_li, fdv_ii, mod_ii, pow_ii, neg_i, sh_i, sh_s, sh_t, sh_l, sh_n, sh_b, sh_c, eq_nn, ne_nn, eq_ni, ne_ni, eq_in, ne_in, eq_nb, ne_nb, eq_bn, ne_bn, eq_ns, ne_ns, eq_sn, ne_sn, eq_ii, ne_ii, eq_bb, ne_bb, eq_ss, ne_ss, eq_is, ne_is, eq_si, ne_si, eq_bs, ne_bs, eq_sb, ne_sb, isn_n, non_n, isn_i, non_i, isn_b, non_b, isn_s, non_s, isn_t, non_t, isn_l, non_l, isn_c, non_c, isn_x, non_x, tru_n, tru_b, tru_i, tru_t, tru_l, notv_b, ix_t, ix_s, ix_l, ix_x, ix_c, ixl_c, sl_t, sl_s, sl_l, sl_c, rev_l, rev_c, len_t, len_l, len_x, len_s, len_c, list_t, list_l, list_x, list_c, tuple_t, tuple_l, tuple_c, int_i, int_b, abs_i, ord_s, isi_n, isi_b, isi_i, isi_s, isi_t, isi_l, isi_c, kindc, max_ii, min_ii, app_c, ext_c, set_c, sidx_ss, cm_ii, cm_ile, cm_igt, cm_ige, isl_l, isl_c, isl_s, iss_s, iss_l, b_ok, b_st, b_ex, o_ok, o_st, o_ex, c_ok, c_st, c_ex, fin_rt, fin_nx, fin_st, nx_nx, nx_rt, nx_bk, nx_ct, nx_ex, nx_st, e_seq, e_var, e_c, e_op, e_un, e_nil, e_cons, e_call, e_tup, e_lst, e_otup, e_olst, e_gd, e_asg, e_drop, e_ret, e_retN, e_next, e_brk, e_cont, e_ifs, e_setS, e_aug, e_augS, e_tru, e_bl, e_and, e_or, e_not, e_andV, e_orV, e_notV, e_if, e_chain, e_nop, e_part, e_sl, e_iSeq, e_iR1, e_iR2, rngOk_of, rngOk2_of, e_for, e_lc, e_yes, e_mt, e_mt2, e_join, e_put, e_fits, Tg.put, TgL.puts, atI_nat', hx]) (fun i x hx => by simp [mkL_f, mkL_t, wipeP, mulOk, lw_l, lw_c, lv_l, lv_c, lv_x, sv_l, sv_c, sv_x, sv_t, lw_i, lw_s, lw_t, lv_s, lv_t, lv_i, lv_n, add_ii, add_ss, add_tt, add_ll, add_lc, add_cl, add_cc, sub_ii, plus_ii, mul_ii, mul_li, fdv_ii, mod_ii, pow_ii, neg_i, sh_i, sh_s, sh_t, sh_l, sh_n, sh_b, sh_c, eq_nn, ne_nn, eq_ni, ne_ni, eq_in, ne_in, eq_nb, ne_nb, eq_bn, ne_bn, eq_ns, ne_ns, eq_sn, ne_sn, eq_ii, ne_ii, eq_bb, ne_bb, eq_ss, ne_ss, eq_is, ne_is, eq_si, ne_si, eq_bs, ne_bs, eq_sb, ne_sb, isn_n, non_n, isn_i, non_i, isn_b, non_b, isn_s, non_s, isn_t, non_t, isn_l, non_l, isn_c, non_c, isn_x, non_x, tru_n, tru_b, tru_i, tru_t, tru_l, notv_b, ix_t, ix_s, ix_l, ix_x, ix_c, ixl_c, sl_t, sl_s, sl_l, sl_c, rev_l, rev_c, len_t, len_l, len_x, len_s, len_c, list_t, list_l, list_x, list_c, tuple_t, tuple_l, tuple_c, int_i, int_b, abs_i, ord_s, isi_n, isi_b, isi_i, isi_s, isi_t, isi_l, isi_c, kindc, max_ii, min_ii, app_c, ext_c, set_c, sidx_ss, cm_ii, cm_ile, cm_igt, cm_ige, isl_l, isl_c, isl_s, iss_s, iss_l, b_ok, b_st, b_ex, o_ok, o_st, o_ex, c_ok, c_st, c_ex, fin_rt, fin_nx, fin_st, nx_nx, nx_rt, nx_bk, nx_ct, nx_ex, nx_st, e_seq, e_var, e_c, e_op, e_un, e_nil, e_cons, e_call, e_tup, e_lst, e_otup, e_olst, e_gd, e_asg, e_drop, e_ret, e_retN, e_next, e_brk, e_cont, e_ifs, e_setS, e_aug, e_augS, e_tru, e_bl, e_and, e_or, e_not, e_andV, e_orV, e_notV, e_if, e_chain, e_nop, e_part, e_sl, e_iSeq, e_iR1, e_iR2, rngOk_of, rngOk2_of, e_for, e_lc, e_yes, e_mt, e_mt2, e_join, e_put, e_fits, Tg.put, TgL.puts, atI_nat', hx]) xs.length 0 none (by omega)
  have k1 : (xs.length : Int) ≤ 100000 := by omega
  rw [f_same_s]; unfold fnC fnF fb_same
  simp [mkL_f, mkL_t, wipeP, mulOk, lw_l, lw_c, lv_l, lv_c, lv_x, sv_l, sv_c, sv_x, sv_t, lw_i, lw_s, lw_t, lv_s, lv_t, lv_i, lv_n, add_ii, add_ss, add_tt, add_ll, add_lc, add_cl, add_cc, sub_ii, plus_ii, mul_ii, mul_li, fdv_ii, mod_ii, pow_ii, neg_i, sh_i, sh_s, sh_t, sh_l, sh_n, sh_b, sh_c, eq_nn, ne_nn, eq_ni, ne_ni, eq_in, ne_in, eq_nb, ne_nb, eq_bn, ne_bn, eq_ns, ne_ns, eq_sn, ne_sn, eq_ii, ne_ii, eq_bb, ne_bb, eq_ss, ne_ss, eq_is, ne_is, eq_si, ne_si, eq_bs, ne_bs, eq_sb, ne_sb, isn_n, non_n, isn_i, non_i, isn_b, non_b, isn_s, non_s, isn_t, non_t, isn_l, non_l, isn_c, non_c, isn_x, non_x, tru_n, tru_b, tru_i, tru_t, tru_l, notv_b, ix_t, ix_s, ix_l, ix_x, ix_c, ixl_c, sl_t, sl_s, sl_l, sl_c, rev_l, rev_c, len_t, len_l, len_x, len_s, len_c, list_t, list_l, list_x, list_c, tuple_t, tuple_l, tuple_c, int_i, int_b, abs_i, ord_s, isi_n, isi_b, isi_i, isi_s, isi_t, isi_l, isi_c, kindc, max_ii, min_ii, app_c, ext_c, set_c, sidx_ss, cm_ii, cm_ile, cm_igt, cm_ige, isl_l, isl_c, isl_s, iss_s, iss_l, b_ok, b_st, b_ex, o_ok, o_st, o_ex, c_ok, c_st, c_ex, fin_rt, fin_nx, fin_st, nx_nx, nx_rt, nx_bk, nx_ct, nx_ex, nx_st, e_seq, e_var, e_c, e_op, e_un, e_nil, e_cons, e_call, e_tup, e_lst, e_otup, e_olst, e_gd, e_asg, e_drop, e_ret, e_retN, e_next, e_brk, e_cont, e_ifs, e_setS, e_aug, e_augS, e_tru, e_bl, e_and, e_or, e_not, e_andV, e_orV, e_notV, e_if, e_chain, e_nop, e_part, e_sl, e_iSeq, e_iR1, e_iR2, rngOk_of, rngOk2_of, e_for, e_lc, e_yes, e_mt, e_mt2, e_join, e_put, e_fits, Tg.put, TgL.puts, startP, h1, k1, rngP_eq, ho, cut_tree0]
theorem same_refl : ∀ (n : Nat) {d : P} (m : M), Sm n d → f_same (n + 1) [d, d] m = .ok (.bl true) m
  | n, _, m, .non _ => same_non n m
  | n, _, m, .int _ i => same_int n m i
  | n, _, m, .bl _ i => same_bl n m i
  | n, _, m, .str _ i => same_str n m i
  | n + 1, _, m, .tup h1 h2 => same_tup (n + 1) m _ h1 fun x hx => same_refl n m (h2 x hx)
  | n + 1, _, m, .lst h1 h2 => same_lst (n + 1) m _ h1 fun x hx => same_refl n m (h2 x hx)
theorem Sm.ip {n : Nat} {k : List Int} (h : k.length ≤ 100000) : Sm (n + 1) (ip k) := .tup (by simpa using h) fun x hx => by
  obtain ⟨i, _, rfl⟩ := List.mem_map.mp hx
  exact .int _ _
theorem Sm.kp (n : Nat) (v : Kv) : Sm n (kp v) := by cases v <;> constructor
theorem Sm.row {n : Nat} {vs : List Kv} (h : vs.length ≤ 100000) : Sm (n + 1) (.tup (vs.map L2.Q.kp)) := .tup (by simpa using h) fun x hx => by
  obtain ⟨v, _, rfl⟩ := List.mem_map.mp hx
  exact .kp _ _
/-! ### orders -/
theorem lexI_tri : ∀ {a b : List Int}, a ≠ b → lexI b a = !lexI a b
  | [], [], h => absurd rfl h
  | [], _ :: _, _ => rfl
  | _ :: _, [], _ => rfl
  | x :: a, y :: b, h => by
    simp only [lexI]
    by_cases e : x = y
    · subst e
      rw [if_pos rfl, if_pos rfl]
      exact lexI_tri fun q => h (by rw [q])
    · rw [if_neg e, if_neg (fun q => e q.symm), Bool.eq_iff_iff]
      simp
      omega
theorem row_tri {a b : List Kv} (ha : ∀ v ∈ a, v.Good) (hb : ∀ v ∈ b, v.Good) (h : a ≠ b) : rowLt b a = !rowLt a b := by
  rw [← keyB_lt a b ha hb, ← keyB_lt b a hb ha]
  exact lexI_tri fun q => h (keyB_inj a b ha hb q)
theorem rowLt_self (a : List Kv) : rowLt a a = false := by
  induction a with
  | nil => rfl
  | cons v a ih => simp [rowLt, ih]
def sgn (a b : List Kv) : Int := if a = b then 0 else if rowLt a b = true then -1 else 1
theorem lexN_lt : ∀ x y : List Nat, decide (x < y) = lexN x y
  | [], [] => by decide
  | [], y :: b => by simp [lexN]
  | x :: a, [] => by simp [lexN]
  | x :: a, y :: b => by
    have ih := lexN_lt a b
    simp only [lexN]
    by_cases e : x = y
    · subst e
      rw [if_pos rfl, ← ih]
      simp
    · rw [if_neg e, decide_eq_decide]
      constructor
      · intro h
        rcases List.cons_lt_cons_iff.mp h with q | q
        · exact q
        · exact absurd q.1 e
      · intro h
        exact List.cons_lt_cons_iff.mpr (.inl h)
def Kv.d (v : Kv) : PyData := match v with
  | .n i => .int i
  | .t x => .str (strL x)
theorem strL_inj {x y : List Nat} : strL x = strL y ↔ x = y := by
  constructor
  · intro h
    have := congrArg (fun s : Str => s.cps.toList) h
    simpa [strL] using this
  · rintro rfl; rfl
theorem kv_eqv (v w : Kv) : PyData.eqv v.d w.d = decide (v = w) := by
  cases v <;> cases w <;> rw [Bool.eq_iff_iff] <;> simp [Kv.d, PyData.eqv, strL_inj]
theorem kp_data (v : Kv) : (kp v).data = some v.d := by cases v <;> simp [kp, P.data, Kv.d]
theorem kv_cmp (o : Cm) (k : Nat) (v w : Kv) (h : v.kind = w.kind) : ∃ b, cmpO o k v.d w.d = some b ∧ (o = .lt → b = v.lt w) ∧ (o = .gt → b = w.lt v) := by
  cases v <;> cases w <;> simp [Kv.kind] at h
  · refine ⟨_, by unfold cmpO Kv.d; rfl, fun e => ?_, fun e => ?_⟩ <;> subst e <;> rfl
  · refine ⟨_, by unfold cmpO Kv.d; rfl, fun e => ?_, fun e => ?_⟩ <;> subst e <;> (simp only [Cm.str, strL_cps]; exact lexN_lt _ _)
def Kv.rd (v : Kv) : PyData := .tuple [.int v.kind, v.d]
theorem kpr_data (v : Kv) : (kpr v).data = some v.rd := by simp [kpr, P.data, P.datas, kp_data, Kv.rd]
theorem datas_kpr : ∀ vs : List Kv, P.datas (vs.map kpr) = some (vs.map Kv.rd)
  | [] => by simp [P.datas]
  | v :: vs => by simp [P.datas, kpr_data, datas_kpr vs]
theorem datas_kp : ∀ vs : List Kv, P.datas (vs.map kp) = some (vs.map Kv.d)
  | [] => by simp [P.datas]
  | v :: vs => by simp [P.datas, kp_data, datas_kp vs]
theorem kind_eqv (v w : Kv) (h : v.kind ≠ w.kind) : v ≠ w := fun e => h (by rw [e])
theorem rd_eqv (v w : Kv) : PyData.eqv v.rd w.rd = decide (v = w) := by
  simp only [Kv.rd, PyData.eqv, PyData.eqvAll, kv_eqv]
  by_cases e : v = w
  · subst e; simp
  · simp [e]
theorem rd_cmp (o : Cm) (k : Nat) (v w : Kv) (h : v ≠ w) : ∃ b, cmpO o (k + 1) v.rd w.rd = some b ∧ (o = .lt → b = v.lt w) ∧ (o = .gt → b = w.lt v) := by
  unfold cmpO Kv.rd
  simp only [cmpL, PyData.eqv, kv_eqv, decide_eq_false h, Bool.false_eq_true, if_false]
  by_cases e : v.kind = w.kind
  · rw [if_pos (by simpa using e)]
    exact kv_cmp o k v w e
  · rw [if_neg (by simpa using e)]
    refine ⟨o.int v.kind w.kind, by unfold cmpO; rfl, fun q => ?_, fun q => ?_⟩ <;> subst q <;> cases v <;> cases w <;> simp [Kv.kind, Cm.int, Kv.lt] at e ⊢
theorem cmpL_rows (o : Cm) (k : Nat) : ∀ a b : List Kv, ∃ r, cmpL o (cmpO o (k + 1)) (a.map Kv.rd) (b.map Kv.rd) = some r ∧ (o = .lt → r = rowLt a b) ∧ (o = .gt → r = rowLt b a)
  | [], [] => ⟨_, rfl, fun e => by subst e; rfl, fun e => by subst e; rfl⟩
  | [], y :: b => ⟨_, rfl, fun e => by subst e; rfl, fun e => by subst e; rfl⟩
  | x :: a, [] => ⟨_, rfl, fun e => by subst e; rfl, fun e => by subst e; rfl⟩
  | x :: a, y :: b => by
    simp only [List.map_cons, cmpL, rd_eqv, decide_eq_true_eq, rowLt]
    by_cases e : x = y
    · subst e
      simp only [if_true]
      exact cmpL_rows o k a b
    · obtain ⟨r, h1, h2, h3⟩ := rd_cmp o k x y e
      refine ⟨r, by rw [if_neg e]; exact h1, fun q => by rw [if_neg e]; exact h2 q, fun q => by rw [if_neg (fun z => e z.symm)]; exact h3 q⟩
theorem lay_kv {v : Kv} (h : v.Good) : v.d.canLay0 = true ∧ v.d.depth = 0 := by
  cases v with
  | n i => simp [Kv.d, PyData.canLay0, PyData.depth]
  | t x =>
    refine ⟨?_, by simp [Kv.d, PyData.depth]⟩
    simp only [Kv.d, PyData.canLay0, PyData.strOk, strL]
    simp
    intro c hc
    have := h.2 c hc
    unfold GoodC at this
    omega
theorem lay_rows : ∀ {vs : List Kv}, (∀ v ∈ vs, v.Good) → PyData.canLayAll0 (vs.map Kv.rd) = true ∧ PyData.depthAll (vs.map Kv.rd) ≤ 1
  | [], _ => by simp [PyData.canLayAll0, PyData.depthAll]
  | v :: vs, h => by
    obtain ⟨h1, h2⟩ := lay_kv (h v List.mem_cons_self)
    obtain ⟨h3, h4⟩ := lay_rows fun w hw => h w (List.mem_cons_of_mem _ hw)
    simp only [List.map_cons, PyData.canLayAll0, PyData.depthAll, Kv.rd, PyData.canLay0, PyData.depth, h1, h2, h3]
    simp
    omega
theorem lay_row : ∀ {vs : List Kv}, (∀ v ∈ vs, v.Good) → PyData.canLayAll0 (vs.map Kv.d) = true ∧ PyData.depthAll (vs.map Kv.d) = 0
  | [], _ => by simp [PyData.canLayAll0, PyData.depthAll]
  | v :: vs, h => by
    obtain ⟨h1, h2⟩ := lay_kv (h v List.mem_cons_self)
    obtain ⟨h3, h4⟩ := lay_row fun w hw => h w (List.mem_cons_of_mem _ hw)
    simp only [List.map_cons, PyData.canLayAll0, PyData.depthAll, h1, h2, h3, h4]
    simp
theorem eqvAll_kv : ∀ a b : List Kv, PyData.eqvAll (a.map Kv.d) (b.map Kv.d) = decide (a = b)
  | [], [] => by simp [PyData.eqvAll]
  | [], y :: b => by simp [PyData.eqvAll]
  | x :: a, [] => by simp [PyData.eqvAll]
  | x :: a, y :: b => by
    simp only [List.map_cons, PyData.eqvAll, kv_eqv, eqvAll_kv a b]
    by_cases h : x = y <;> simp [h]
theorem eqvAll_rd : ∀ a b : List Kv, PyData.eqvAll (a.map Kv.rd) (b.map Kv.rd) = decide (a = b)
  | [], [] => by simp [PyData.eqvAll]
  | [], y :: b => by simp [PyData.eqvAll]
  | x :: a, [] => by simp [PyData.eqvAll]
  | x :: a, y :: b => by
    simp only [List.map_cons, PyData.eqvAll, rd_eqv, eqvAll_rd a b]
    by_cases h : x = y <;> simp [h]
/-- rows as tuples, rows as row_order gives them -/
def rp (vs : List Kv) : P := .tup (vs.map kp)
def rop (vs : List Kv) : P := .tup (vs.map kpr)
theorem eq_rows {a b : List Kv} (ha : ∀ v ∈ a, v.Good) (hb : ∀ v ∈ b, v.Good) (m : M) : oEq (rp a) (rp b) m = .ok (.bl (decide (a = b))) m := by
  have s : ∀ {vs : List Kv}, (∀ v ∈ vs, v.Good) → SeqAt.shaped (.tuple (vs.map Kv.d)) = true := fun h => by
    simp only [SeqAt.shaped, PyData.canLay0, PyData.depth, (lay_row h).1, (lay_row h).2]; decide
  unfold rp
  rw [eq_tt]
  unfold eqDat
  simp only [sh_t, P.data, datas_kp, Option.map_some, s ha, s hb, Bool.and_self, if_true, PyData.eqv, eqvAll_kv]
theorem eq_rops {a b : List Kv} (ha : ∀ v ∈ a, v.Good) (hb : ∀ v ∈ b, v.Good) (m : M) : oEq (rop a) (rop b) m = .ok (.bl (decide (a = b))) m := by
  have s : ∀ {vs : List Kv}, (∀ v ∈ vs, v.Good) → SeqAt.shaped (.tuple (vs.map Kv.rd)) = true := fun {vs} h => by
    have := (lay_rows h).2
    simp only [SeqAt.shaped, PyData.canLay0, PyData.depth, (lay_rows h).1, Bool.true_and]; exact decide_eq_true (by omega)
  unfold rop
  rw [eq_tt]
  unfold eqDat
  simp only [sh_t, P.data, datas_kpr, Option.map_some, s ha, s hb, Bool.and_self, if_true, PyData.eqv, eqvAll_rd]
theorem cm_rops {o : Cm} {a b : List Kv} (ha : ∀ v ∈ a, v.Good) (hb : ∀ v ∈ b, v.Good) (m : M) : ∃ r, oCm o (rop a) (rop b) m = .ok (.bl r) m ∧ (o = .lt → r = rowLt a b) ∧ (o = .gt → r = rowLt b a) := by
  obtain ⟨r, h1, h2, h3⟩ := cmpL_rows o 6 a b
  refine ⟨r, ?_, h2, h3⟩
  have hd : decide ((PyData.tuple (a.map Kv.rd)).depth ≤ 64) = true := by
    have := (lay_rows ha).2
    simp only [PyData.depth]; exact decide_eq_true (by omega)
  have h : cmD o (.tuple (a.map Kv.rd)) (.tuple (b.map Kv.rd)) = some r := by
    unfold cmD
    simp only [PyData.canLay0, (lay_rows ha).1, (lay_rows hb).1, hd, Bool.and_self, if_true]
    unfold cmpO
    exact h1
  show (match P.data (.tup (a.map kpr)), P.data (.tup (b.map kpr)) with
    | some a, some b => match cmD o a b with
      | some r => Res.ok (P.bl r) m
      | none => .stuck
    | _, _ => .stuck) = _
  simp only [P.data, datas_kpr, Option.map_some, h]
/-! ### order, agrees -/
def GoodS (x : List Nat) : Prop := ∀ c ∈ x, GoodC c
theorem row_ix (p a : List Kv) (x : Kv) (m : M) : oIx (rp (p ++ x :: a)) (.int (p.length : Int)) m = .ok (kp x) m := by
  unfold rp
  rw [ix_t, atI_nat', List.getElem?_map, List.getElem?_append_right (Nat.le_refl _), Nat.sub_self]
  rfl
theorem row_len (a : List Kv) (m : M) : oLen [rp a] m = .ok (.int (a.length : Int)) m := by
  unfold rp
  rw [len_t, List.length_map]
theorem sgn_cons (x : Kv) (a b : List Kv) : sgn (x :: a) (x :: b) = sgn a b := by
  unfold sgn
  simp [rowLt]
theorem sgn_ne {x y : Kv} (h : x ≠ y) (a b : List Kv) : sgn (x :: a) (y :: b) = if x.lt y = true then -1 else 1 := by
  unfold sgn
  rw [if_neg (by simp [h])]
  simp only [rowLt, if_neg h]
theorem strs_lt (x y : List Nat) (m : M) (hx : GoodS x) (hy : GoodS y) : oCm .lt (.str (strL x)) (.str (strL y)) m = .ok (.bl (lexN x y)) m := by
  have lay : ∀ {x : List Nat}, GoodS x → (PyData.str (strL x)).canLay0 = true := fun {x} h => by
    simp only [PyData.canLay0, PyData.strOk, strL]
    simp
    intro c hc
    have := h c hc
    unfold GoodC at this
    omega
  have h : cmD .lt (.str (strL x)) (.str (strL y)) = some (lexN x y) := by
    unfold cmD
    have hd : decide ((PyData.str (strL x)).depth ≤ 64) = true := decide_eq_true (by simp only [PyData.depth]; omega)
    simp only [lay hx, lay hy, hd, Bool.and_self, if_true]
    unfold cmpO
    simp only [Cm.str, strL_cps, lexN_lt]
  show (match P.data (.str (strL x)), P.data (.str (strL y)) with
    | some a, some b => match cmD .lt a b with
      | some r => Res.ok (P.bl r) m
      | none => .stuck
    | _, _ => .stuck) = _
  simp only [P.data, h]
theorem order_loop (m : M) : ∀ (a b p : List Kv) (o3 o2 : Option P), (∀ v ∈ a, v.Good) → (∀ v ∈ b, v.Good) →
    (forG (.name 2) (fSeq (fAsg (.name 3) (fLst false (fCons (fCall oIsi (fCons (fOp oIx (fVar 0) (fVar 2)) (fCons (fC (.ty "str")) fNil))) (fCons (fCall oIsi (fCons (fOp oIx (fVar 1) (fVar 2)) (fCons (fC (.ty "str")) fNil))) fNil))))
  (fSeq (fIfS (fBl (fOp oNe (fOp oIx (fVar 3) (fC (.int 0))) (fOp oIx (fVar 3) (fC (.int 1))))) (fRet (fOp oSub (fC (.int 1)) (fOp (oMul false) (fC (.int 2)) (fCall oInt (fCons (fOp oIx (fVar 3) (fC (.int 1))) fNil))))) fNext)
  (fIfS (fBl (fOp oNe (fOp oIx (fVar 0) (fVar 2)) (fOp oIx (fVar 1) (fVar 2)))) (fRet (fOp oSub (fC (.int 1)) (fOp (oMul false) (fC (.int 2)) (fCall oInt (fCons (fOp (oCm .lt) (fOp oIx (fVar 0) (fVar 2)) (fOp oIx (fVar 1) (fVar 2))) fNil))))) fNext))) [] ((List.range' p.length (min a.length b.length)).map fun (i : Nat) => .int (i : Int)) [some (rp (p ++ a)), some (rp (p ++ b)), o2, o3] m).next (fRet (fOp oSub (fCall oInt (fCons (fOp (oCm .gt) (fCall oLen (fCons (fVar 0) fNil)) (fCall oLen (fCons (fVar 1) fNil))) fNil)) (fCall oInt (fCons (fOp (oCm .lt) (fCall oLen (fCons (fVar 0) fNil)) (fCall oLen (fCons (fVar 1) fNil))) fNil)))) = .rt (.int (sgn a b)) m
  | [], [], p, o3, o2, _, _ => by
    simp [forG_nil, mkL_f, mkL_t, wipeP, mulOk, lw_l, lw_c, lv_l, lv_c, lv_x, sv_l, sv_c, sv_x, sv_t, lw_i, lw_s, lw_t, lv_s, lv_t, lv_i, lv_n, add_ii, add_ss, add_tt, add_ll, add_lc, add_cl, add_cc, sub_ii, plus_ii, mul_ii, mul_li, fdv_ii, mod_ii, pow_ii, neg_i, sh_i, sh_s, sh_t, sh_l, sh_n, sh_b, sh_c, eq_nn, ne_nn, eq_ni, ne_ni, eq_in, ne_in, eq_nb, ne_nb, eq_bn, ne_bn, eq_ns, ne_ns, eq_sn, ne_sn, eq_ii, ne_ii, eq_bb, ne_bb, eq_ss, ne_ss, eq_is, ne_is, eq_si, ne_si, eq_bs, ne_bs, eq_sb, ne_sb, isn_n, non_n, isn_i, non_i, isn_b, non_b, isn_s, non_s, isn_t, non_t, isn_l, non_l, isn_c, non_c, isn_x, non_x, tru_n, tru_b, tru_i, tru_t, tru_l, notv_b, ix_t, ix_s, ix_l, ix_x, ix_c, ixl_c, sl_t, sl_s, sl_l, sl_c, rev_l, rev_c, len_t, len_l, len_x, len_s, len_c, list_t, list_l, list_x, list_c, tuple_t, tuple_l, tuple_c, int_i, int_b, abs_i, ord_s, isi_n, isi_b, isi_i, isi_s, isi_t, isi_l, isi_c, kindc, max_ii, min_ii, app_c, ext_c, set_c, sidx_ss, cm_ii, cm_ile, cm_igt, cm_ige, isl_l, isl_c, isl_s, iss_s, iss_l, b_ok, b_st, b_ex, o_ok, o_st, o_ex, c_ok, c_st, c_ex, fin_rt, fin_nx, fin_st, nx_nx, nx_rt, nx_bk, nx_ct, nx_ex, nx_st, e_seq, e_var, e_c, e_op, e_un, e_nil, e_cons, e_call, e_tup, e_lst, e_otup, e_olst, e_gd, e_asg, e_drop, e_ret, e_retN, e_next, e_brk, e_cont, e_ifs, e_setS, e_aug, e_augS, e_tru, e_bl, e_and, e_or, e_not, e_andV, e_orV, e_notV, e_if, e_chain, e_nop, e_part, e_sl, e_iSeq, e_iR1, e_iR2, rngOk_of, rngOk2_of, e_for, e_lc, e_yes, e_mt, e_mt2, e_join, e_put, e_fits, Tg.put, TgL.puts, row_len, sgn]
  | [], y :: b, p, o3, o2, _, _ => by
    have h : ¬ ((p.length : Int) + ((b.length : Int) + 1) < (p.length : Int)) := by omega
    have h2 : (p.length : Int) < (p.length : Int) + ((b.length : Int) + 1) := by omega
    simp [forG_nil, mkL_f, mkL_t, wipeP, mulOk, lw_l, lw_c, lv_l, lv_c, lv_x, sv_l, sv_c, sv_x, sv_t, lw_i, lw_s, lw_t, lv_s, lv_t, lv_i, lv_n, add_ii, add_ss, add_tt, add_ll, add_lc, add_cl, add_cc, sub_ii, plus_ii, mul_ii, mul_li, fdv_ii, mod_ii, pow_ii, neg_i, sh_i, sh_s, sh_t, sh_l, sh_n, sh_b, sh_c, eq_nn, ne_nn, eq_ni, ne_ni, eq_in, ne_in, eq_nb, ne_nb, eq_bn, ne_bn, eq_ns, ne_ns, eq_sn, ne_sn, eq_ii, ne_ii, eq_bb, ne_bb, eq_ss, ne_ss, eq_is, ne_is, eq_si, ne_si, eq_bs, ne_bs, eq_sb, ne_sb, isn_n, non_n, isn_i, non_i, isn_b, non_b, isn_s, non_s, isn_t, non_t, isn_l, non_l, isn_c, non_c, isn_x, non_x, tru_n, tru_b, tru_i, tru_t, tru_l, notv_b, ix_t, ix_s, ix_l, ix_x, ix_c, ixl_c, sl_t, sl_s, sl_l, sl_c, rev_l, rev_c, len_t, len_l, len_x, len_s, len_c, list_t, list_l, list_x, list_c, tuple_t, tuple_l, tuple_c, int_i, int_b, abs_i, ord_s, isi_n, isi_b, isi_i, isi_s, isi_t, isi_l, isi_c, kindc, max_ii, min_ii, app_c, ext_c, set_c, sidx_ss, cm_ii, cm_ile, cm_igt, cm_ige, isl_l, isl_c, isl_s, iss_s, iss_l, b_ok, b_st, b_ex, o_ok, o_st, o_ex, c_ok, c_st, c_ex, fin_rt, fin_nx, fin_st, nx_nx, nx_rt, nx_bk, nx_ct, nx_ex, nx_st, e_seq, e_var, e_c, e_op, e_un, e_nil, e_cons, e_call, e_tup, e_lst, e_otup, e_olst, e_gd, e_asg, e_drop, e_ret, e_retN, e_next, e_brk, e_cont, e_ifs, e_setS, e_aug, e_augS, e_tru, e_bl, e_and, e_or, e_not, e_andV, e_orV, e_notV, e_if, e_chain, e_nop, e_part, e_sl, e_iSeq, e_iR1, e_iR2, rngOk_of, rngOk2_of, e_for, e_lc, e_yes, e_mt, e_mt2, e_join, e_put, e_fits, Tg.put, TgL.puts, row_len, sgn, rowLt, h, h2]
  | x :: a, [], p, o3, o2, _, _ => by
    have h : ¬ ((p.length : Int) + ((a.length : Int) + 1) < (p.length : Int)) := by omega
    have h2 : (p.length : Int) < (p.length : Int) + ((a.length : Int) + 1) := by omega
    simp [forG_nil, mkL_f, mkL_t, wipeP, mulOk, lw_l, lw_c, lv_l, lv_c, lv_x, sv_l, sv_c, sv_x, sv_t, lw_i, lw_s, lw_t, lv_s, lv_t, lv_i, lv_n, add_ii, add_ss, add_tt, add_ll, add_lc, add_cl, add_cc, sub_ii, plus_ii, mul_ii, mul_li, fdv_ii, mod_ii, pow_ii, neg_i, sh_i, sh_s, sh_t, sh_l, sh_n, sh_b, sh_c, eq_nn, ne_nn, eq_ni, ne_ni, eq_in, ne_in, eq_nb, ne_nb, eq_bn, ne_bn, eq_ns, ne_ns, eq_sn, ne_sn, eq_ii, ne_ii, eq_bb, ne_bb, eq_ss, ne_ss, eq_is, ne_is, eq_si, ne_si, eq_bs, ne_bs, eq_sb, ne_sb, isn_n, non_n, isn_i, non_i, isn_b, non_b, isn_s, non_s, isn_t, non_t, isn_l, non_l, isn_c, non_c, isn_x, non_x, tru_n, tru_b, tru_i, tru_t, tru_l, notv_b, ix_t, ix_s, ix_l, ix_x, ix_c, ixl_c, sl_t, sl_s, sl_l, sl_c, rev_l, rev_c, len_t, len_l, len_x, len_s, len_c, list_t, list_l, list_x, list_c, tuple_t, tuple_l, tuple_c, int_i, int_b, abs_i, ord_s, isi_n, isi_b, isi_i, isi_s, isi_t, isi_l, isi_c, kindc, max_ii, min_ii, app_c, ext_c, set_c, sidx_ss, cm_ii, cm_ile, cm_igt, cm_ige, isl_l, isl_c, isl_s, iss_s, iss_l, b_ok, b_st, b_ex, o_ok, o_st, o_ex, c_ok, c_st, c_ex, fin_rt, fin_nx, fin_st, nx_nx, nx_rt, nx_bk, nx_ct, nx_ex, nx_st, e_seq, e_var, e_c, e_op, e_un, e_nil, e_cons, e_call, e_tup, e_lst, e_otup, e_olst, e_gd, e_asg, e_drop, e_ret, e_retN, e_next, e_brk, e_cont, e_ifs, e_setS, e_aug, e_augS, e_tru, e_bl, e_and, e_or, e_not, e_andV, e_orV, e_notV, e_if, e_chain, e_nop, e_part, e_sl, e_iSeq, e_iR1, e_iR2, rngOk_of, rngOk2_of, e_for, e_lc, e_yes, e_mt, e_mt2, e_join, e_put, e_fits, Tg.put, TgL.puts, row_len, sgn, rowLt, h, h2]
  | x :: a, y :: b, p, o3, o2, ha, hb => by
    have e : min (x :: a).length (y :: b).length = min a.length b.length + 1 := by simp only [List.length_cons]; omega
    have hx := ha x List.mem_cons_self
    have hy := hb y List.mem_cons_self
    have ih := fun o3 o2 => order_loop m a b (p ++ [x]) o3 o2 (fun w hw => ha w (List.mem_cons_of_mem _ hw)) (fun w hw => hb w (List.mem_cons_of_mem _ hw))
    have r1 := fun m => row_ix p a x m
    have r2 := fun m => row_ix p b y m
    rw [e, List.range'_succ, List.map_cons, forG_cons]
    by_cases hxy : x = y
    · subst hxy
      rw [sgn_cons]
      simp only [List.length_append, List.length_singleton, List.append_assoc, List.singleton_append] at ih
      cases x with
      | n i =>
        have := ih (some (.lst [.bl false, .bl false])) (some (.int p.length))
        simp [mkL_f, mkL_t, wipeP, mulOk, lw_l, lw_c, lv_l, lv_c, lv_x, sv_l, sv_c, sv_x, sv_t, lw_i, lw_s, lw_t, lv_s, lv_t, lv_i, lv_n, add_ii, add_ss, add_tt, add_ll, add_lc, add_cl, add_cc, sub_ii, plus_ii, mul_ii, mul_li, fdv_ii, mod_ii, pow_ii, neg_i, sh_i, sh_s, sh_t, sh_l, sh_n, sh_b, sh_c, eq_nn, ne_nn, eq_ni, ne_ni, eq_in, ne_in, eq_nb, ne_nb, eq_bn, ne_bn, eq_ns, ne_ns, eq_sn, ne_sn, eq_ii, ne_ii, eq_bb, ne_bb, eq_ss, ne_ss, eq_is, ne_is, eq_si, ne_si, eq_bs, ne_bs, eq_sb, ne_sb, isn_n, non_n, isn_i, non_i, isn_b, non_b, isn_s, non_s, isn_t, non_t, isn_l, non_l, isn_c, non_c, isn_x, non_x, tru_n, tru_b, tru_i, tru_t, tru_l, notv_b, ix_t, ix_s, ix_l, ix_x, ix_c, ixl_c, sl_t, sl_s, sl_l, sl_c, rev_l, rev_c, len_t, len_l, len_x, len_s, len_c, list_t, list_l, list_x, list_c, tuple_t, tuple_l, tuple_c, int_i, int_b, abs_i, ord_s, isi_n, isi_b, isi_i, isi_s, isi_t, isi_l, isi_c, kindc, max_ii, min_ii, app_c, ext_c, set_c, sidx_ss, cm_ii, cm_ile, cm_igt, cm_ige, isl_l, isl_c, isl_s, iss_s, iss_l, b_ok, b_st, b_ex, o_ok, o_st, o_ex, c_ok, c_st, c_ex, fin_rt, fin_nx, fin_st, nx_nx, nx_rt, nx_bk, nx_ct, nx_ex, nx_st, e_seq, e_var, e_c, e_op, e_un, e_nil, e_cons, e_call, e_tup, e_lst, e_otup, e_olst, e_gd, e_asg, e_drop, e_ret, e_retN, e_next, e_brk, e_cont, e_ifs, e_setS, e_aug, e_augS, e_tru, e_bl, e_and, e_or, e_not, e_andV, e_orV, e_notV, e_if, e_chain, e_nop, e_part, e_sl, e_iSeq, e_iR1, e_iR2, rngOk_of, rngOk2_of, e_for, e_lc, e_yes, e_mt, e_mt2, e_join, e_put, e_fits, Tg.put, TgL.puts, r1, r2, kp, atI_0, atI_1]
        exact this
      | t z =>
        have := ih (some (.lst [.bl true, .bl true])) (some (.int p.length))
        simp [mkL_f, mkL_t, wipeP, mulOk, lw_l, lw_c, lv_l, lv_c, lv_x, sv_l, sv_c, sv_x, sv_t, lw_i, lw_s, lw_t, lv_s, lv_t, lv_i, lv_n, add_ii, add_ss, add_tt, add_ll, add_lc, add_cl, add_cc, sub_ii, plus_ii, mul_ii, mul_li, fdv_ii, mod_ii, pow_ii, neg_i, sh_i, sh_s, sh_t, sh_l, sh_n, sh_b, sh_c, eq_nn, ne_nn, eq_ni, ne_ni, eq_in, ne_in, eq_nb, ne_nb, eq_bn, ne_bn, eq_ns, ne_ns, eq_sn, ne_sn, eq_ii, ne_ii, eq_bb, ne_bb, eq_ss, ne_ss, eq_is, ne_is, eq_si, ne_si, eq_bs, ne_bs, eq_sb, ne_sb, isn_n, non_n, isn_i, non_i, isn_b, non_b, isn_s, non_s, isn_t, non_t, isn_l, non_l, isn_c, non_c, isn_x, non_x, tru_n, tru_b, tru_i, tru_t, tru_l, notv_b, ix_t, ix_s, ix_l, ix_x, ix_c, ixl_c, sl_t, sl_s, sl_l, sl_c, rev_l, rev_c, len_t, len_l, len_x, len_s, len_c, list_t, list_l, list_x, list_c, tuple_t, tuple_l, tuple_c, int_i, int_b, abs_i, ord_s, isi_n, isi_b, isi_i, isi_s, isi_t, isi_l, isi_c, kindc, max_ii, min_ii, app_c, ext_c, set_c, sidx_ss, cm_ii, cm_ile, cm_igt, cm_ige, isl_l, isl_c, isl_s, iss_s, iss_l, b_ok, b_st, b_ex, o_ok, o_st, o_ex, c_ok, c_st, c_ex, fin_rt, fin_nx, fin_st, nx_nx, nx_rt, nx_bk, nx_ct, nx_ex, nx_st, e_seq, e_var, e_c, e_op, e_un, e_nil, e_cons, e_call, e_tup, e_lst, e_otup, e_olst, e_gd, e_asg, e_drop, e_ret, e_retN, e_next, e_brk, e_cont, e_ifs, e_setS, e_aug, e_augS, e_tru, e_bl, e_and, e_or, e_not, e_andV, e_orV, e_notV, e_if, e_chain, e_nop, e_part, e_sl, e_iSeq, e_iR1, e_iR2, rngOk_of, rngOk2_of, e_for, e_lc, e_yes, e_mt, e_mt2, e_join, e_put, e_fits, Tg.put, TgL.puts, r1, r2, kp, atI_0, atI_1]
        exact this
    · rw [sgn_ne hxy]
      cases x with
      | n i => cases y with
        | n j =>
          have hij : i ≠ j := fun q => hxy (by rw [q])
          by_cases hl : i < j <;> simp [mkL_f, mkL_t, wipeP, mulOk, lw_l, lw_c, lv_l, lv_c, lv_x, sv_l, sv_c, sv_x, sv_t, lw_i, lw_s, lw_t, lv_s, lv_t, lv_i, lv_n, add_ii, add_ss, add_tt, add_ll, add_lc, add_cl, add_cc, sub_ii, plus_ii, mul_ii, mul_li, fdv_ii, mod_ii, pow_ii, neg_i, sh_i, sh_s, sh_t, sh_l, sh_n, sh_b, sh_c, eq_nn, ne_nn, eq_ni, ne_ni, eq_in, ne_in, eq_nb, ne_nb, eq_bn, ne_bn, eq_ns, ne_ns, eq_sn, ne_sn, eq_ii, ne_ii, eq_bb, ne_bb, eq_ss, ne_ss, eq_is, ne_is, eq_si, ne_si, eq_bs, ne_bs, eq_sb, ne_sb, isn_n, non_n, isn_i, non_i, isn_b, non_b, isn_s, non_s, isn_t, non_t, isn_l, non_l, isn_c, non_c, isn_x, non_x, tru_n, tru_b, tru_i, tru_t, tru_l, notv_b, ix_t, ix_s, ix_l, ix_x, ix_c, ixl_c, sl_t, sl_s, sl_l, sl_c, rev_l, rev_c, len_t, len_l, len_x, len_s, len_c, list_t, list_l, list_x, list_c, tuple_t, tuple_l, tuple_c, int_i, int_b, abs_i, ord_s, isi_n, isi_b, isi_i, isi_s, isi_t, isi_l, isi_c, kindc, max_ii, min_ii, app_c, ext_c, set_c, sidx_ss, cm_ii, cm_ile, cm_igt, cm_ige, isl_l, isl_c, isl_s, iss_s, iss_l, b_ok, b_st, b_ex, o_ok, o_st, o_ex, c_ok, c_st, c_ex, fin_rt, fin_nx, fin_st, nx_nx, nx_rt, nx_bk, nx_ct, nx_ex, nx_st, e_seq, e_var, e_c, e_op, e_un, e_nil, e_cons, e_call, e_tup, e_lst, e_otup, e_olst, e_gd, e_asg, e_drop, e_ret, e_retN, e_next, e_brk, e_cont, e_ifs, e_setS, e_aug, e_augS, e_tru, e_bl, e_and, e_or, e_not, e_andV, e_orV, e_notV, e_if, e_chain, e_nop, e_part, e_sl, e_iSeq, e_iR1, e_iR2, rngOk_of, rngOk2_of, e_for, e_lc, e_yes, e_mt, e_mt2, e_join, e_put, e_fits, Tg.put, TgL.puts, r1, r2, kp, atI_0, atI_1, hij, Kv.lt, hl]
        | t z => simp [mkL_f, mkL_t, wipeP, mulOk, lw_l, lw_c, lv_l, lv_c, lv_x, sv_l, sv_c, sv_x, sv_t, lw_i, lw_s, lw_t, lv_s, lv_t, lv_i, lv_n, add_ii, add_ss, add_tt, add_ll, add_lc, add_cl, add_cc, sub_ii, plus_ii, mul_ii, mul_li, fdv_ii, mod_ii, pow_ii, neg_i, sh_i, sh_s, sh_t, sh_l, sh_n, sh_b, sh_c, eq_nn, ne_nn, eq_ni, ne_ni, eq_in, ne_in, eq_nb, ne_nb, eq_bn, ne_bn, eq_ns, ne_ns, eq_sn, ne_sn, eq_ii, ne_ii, eq_bb, ne_bb, eq_ss, ne_ss, eq_is, ne_is, eq_si, ne_si, eq_bs, ne_bs, eq_sb, ne_sb, isn_n, non_n, isn_i, non_i, isn_b, non_b, isn_s, non_s, isn_t, non_t, isn_l, non_l, isn_c, non_c, isn_x, non_x, tru_n, tru_b, tru_i, tru_t, tru_l, notv_b, ix_t, ix_s, ix_l, ix_x, ix_c, ixl_c, sl_t, sl_s, sl_l, sl_c, rev_l, rev_c, len_t, len_l, len_x, len_s, len_c, list_t, list_l, list_x, list_c, tuple_t, tuple_l, tuple_c, int_i, int_b, abs_i, ord_s, isi_n, isi_b, isi_i, isi_s, isi_t, isi_l, isi_c, kindc, max_ii, min_ii, app_c, ext_c, set_c, sidx_ss, cm_ii, cm_ile, cm_igt, cm_ige, isl_l, isl_c, isl_s, iss_s, iss_l, b_ok, b_st, b_ex, o_ok, o_st, o_ex, c_ok, c_st, c_ex, fin_rt, fin_nx, fin_st, nx_nx, nx_rt, nx_bk, nx_ct, nx_ex, nx_st, e_seq, e_var, e_c, e_op, e_un, e_nil, e_cons, e_call, e_tup, e_lst, e_otup, e_olst, e_gd, e_asg, e_drop, e_ret, e_retN, e_next, e_brk, e_cont, e_ifs, e_setS, e_aug, e_augS, e_tru, e_bl, e_and, e_or, e_not, e_andV, e_orV, e_notV, e_if, e_chain, e_nop, e_part, e_sl, e_iSeq, e_iR1, e_iR2, rngOk_of, rngOk2_of, e_for, e_lc, e_yes, e_mt, e_mt2, e_join, e_put, e_fits, Tg.put, TgL.puts, r1, r2, kp, atI_0, atI_1, Kv.lt]
      | t w => cases y with
        | n j => simp [mkL_f, mkL_t, wipeP, mulOk, lw_l, lw_c, lv_l, lv_c, lv_x, sv_l, sv_c, sv_x, sv_t, lw_i, lw_s, lw_t, lv_s, lv_t, lv_i, lv_n, add_ii, add_ss, add_tt, add_ll, add_lc, add_cl, add_cc, sub_ii, plus_ii, mul_ii, mul_li, fdv_ii, mod_ii, pow_ii, neg_i, sh_i, sh_s, sh_t, sh_l, sh_n, sh_b, sh_c, eq_nn, ne_nn, eq_ni, ne_ni, eq_in, ne_in, eq_nb, ne_nb, eq_bn, ne_bn, eq_ns, ne_ns, eq_sn, ne_sn, eq_ii, ne_ii, eq_bb, ne_bb, eq_ss, ne_ss, eq_is, ne_is, eq_si, ne_si, eq_bs, ne_bs, eq_sb, ne_sb, isn_n, non_n, isn_i, non_i, isn_b, non_b, isn_s, non_s, isn_t, non_t, isn_l, non_l, isn_c, non_c, isn_x, non_x, tru_n, tru_b, tru_i, tru_t, tru_l, notv_b, ix_t, ix_s, ix_l, ix_x, ix_c, ixl_c, sl_t, sl_s, sl_l, sl_c, rev_l, rev_c, len_t, len_l, len_x, len_s, len_c, list_t, list_l, list_x, list_c, tuple_t, tuple_l, tuple_c, int_i, int_b, abs_i, ord_s, isi_n, isi_b, isi_i, isi_s, isi_t, isi_l, isi_c, kindc, max_ii, min_ii, app_c, ext_c, set_c, sidx_ss, cm_ii, cm_ile, cm_igt, cm_ige, isl_l, isl_c, isl_s, iss_s, iss_l, b_ok, b_st, b_ex, o_ok, o_st, o_ex, c_ok, c_st, c_ex, fin_rt, fin_nx, fin_st, nx_nx, nx_rt, nx_bk, nx_ct, nx_ex, nx_st, e_seq, e_var, e_c, e_op, e_un, e_nil, e_cons, e_call, e_tup, e_lst, e_otup, e_olst, e_gd, e_asg, e_drop, e_ret, e_retN, e_next, e_brk, e_cont, e_ifs, e_setS, e_aug, e_augS, e_tru, e_bl, e_and, e_or, e_not, e_andV, e_orV, e_notV, e_if, e_chain, e_nop, e_part, e_sl, e_iSeq, e_iR1, e_iR2, rngOk_of, rngOk2_of, e_for, e_lc, e_yes, e_mt, e_mt2, e_join, e_put, e_fits, Tg.put, TgL.puts, r1, r2, kp, atI_0, atI_1, Kv.lt]
        | t z =>
          have hij : ¬ strL w = strL z := fun q => hxy (by rw [strL_inj.mp q])
          have hlt := fun m => strs_lt w z m hx.2 hy.2
          cases hl : lexN w z <;> simp [mkL_f, mkL_t, wipeP, mulOk, lw_l, lw_c, lv_l, lv_c, lv_x, sv_l, sv_c, sv_x, sv_t, lw_i, lw_s, lw_t, lv_s, lv_t, lv_i, lv_n, add_ii, add_ss, add_tt, add_ll, add_lc, add_cl, add_cc, sub_ii, plus_ii, mul_ii, mul_li, fdv_ii, mod_ii, pow_ii, neg_i, sh_i, sh_s, sh_t, sh_l, sh_n, sh_b, sh_c, eq_nn, ne_nn, eq_ni, ne_ni, eq_in, ne_in, eq_nb, ne_nb, eq_bn, ne_bn, eq_ns, ne_ns, eq_sn, ne_sn, eq_ii, ne_ii, eq_bb, ne_bb, eq_ss, ne_ss, eq_is, ne_is, eq_si, ne_si, eq_bs, ne_bs, eq_sb, ne_sb, isn_n, non_n, isn_i, non_i, isn_b, non_b, isn_s, non_s, isn_t, non_t, isn_l, non_l, isn_c, non_c, isn_x, non_x, tru_n, tru_b, tru_i, tru_t, tru_l, notv_b, ix_t, ix_s, ix_l, ix_x, ix_c, ixl_c, sl_t, sl_s, sl_l, sl_c, rev_l, rev_c, len_t, len_l, len_x, len_s, len_c, list_t, list_l, list_x, list_c, tuple_t, tuple_l, tuple_c, int_i, int_b, abs_i, ord_s, isi_n, isi_b, isi_i, isi_s, isi_t, isi_l, isi_c, kindc, max_ii, min_ii, app_c, ext_c, set_c, sidx_ss, cm_ii, cm_ile, cm_igt, cm_ige, isl_l, isl_c, isl_s, iss_s, iss_l, b_ok, b_st, b_ex, o_ok, o_st, o_ex, c_ok, c_st, c_ex, fin_rt, fin_nx, fin_st, nx_nx, nx_rt, nx_bk, nx_ct, nx_ex, nx_st, e_seq, e_var, e_c, e_op, e_un, e_nil, e_cons, e_call, e_tup, e_lst, e_otup, e_olst, e_gd, e_asg, e_drop, e_ret, e_retN, e_next, e_brk, e_cont, e_ifs, e_setS, e_aug, e_augS, e_tru, e_bl, e_and, e_or, e_not, e_andV, e_orV, e_notV, e_if, e_chain, e_nop, e_part, e_sl, e_iSeq, e_iR1, e_iR2, rngOk_of, rngOk2_of, e_for, e_lc, e_yes, e_mt, e_mt2, e_join, e_put, e_fits, Tg.put, TgL.puts, r1, r2, kp, atI_0, atI_1, hij, Kv.lt, hlt, hl]
theorem order_k {a b : List Kv} (ha : ∀ v ∈ a, v.Good) (hb : ∀ v ∈ b, v.Good) (la : a.length ≤ 1000) (m : M) : f_order [rp a, rp b] m = .ok (.int (sgn a b)) m := by
  have := order_loop m a b [] none none ha hb
  unfold f_order fnC fnF fb_order
  have h0 : (0 : Int) ≤ (if b.length < a.length then (b.length : Int) else (a.length : Int)) := by split <;> omega
  have h1 : (if b.length < a.length then (b.length : Int) else (a.length : Int)) ≤ 100000 := by split <;> omega
  have h2 : (if b.length < a.length then (b.length : Int) else (a.length : Int)).toNat = min a.length b.length := by split <;> omega
  simp only [List.nil_append, List.length_nil] at this
  simp [mkL_f, mkL_t, wipeP, mulOk, lw_l, lw_c, lv_l, lv_c, lv_x, sv_l, sv_c, sv_x, sv_t, lw_i, lw_s, lw_t, lv_s, lv_t, lv_i, lv_n, add_ii, add_ss, add_tt, add_ll, add_lc, add_cl, add_cc, sub_ii, plus_ii, mul_ii, mul_li, fdv_ii, mod_ii, pow_ii, neg_i, sh_i, sh_s, sh_t, sh_l, sh_n, sh_b, sh_c, eq_nn, ne_nn, eq_ni, ne_ni, eq_in, ne_in, eq_nb, ne_nb, eq_bn, ne_bn, eq_ns, ne_ns, eq_sn, ne_sn, eq_ii, ne_ii, eq_bb, ne_bb, eq_ss, ne_ss, eq_is, ne_is, eq_si, ne_si, eq_bs, ne_bs, eq_sb, ne_sb, isn_n, non_n, isn_i, non_i, isn_b, non_b, isn_s, non_s, isn_t, non_t, isn_l, non_l, isn_c, non_c, isn_x, non_x, tru_n, tru_b, tru_i, tru_t, tru_l, notv_b, ix_t, ix_s, ix_l, ix_x, ix_c, ixl_c, sl_t, sl_s, sl_l, sl_c, rev_l, rev_c, len_t, len_l, len_x, len_s, len_c, list_t, list_l, list_x, list_c, tuple_t, tuple_l, tuple_c, int_i, int_b, abs_i, ord_s, isi_n, isi_b, isi_i, isi_s, isi_t, isi_l, isi_c, kindc, max_ii, min_ii, app_c, ext_c, set_c, sidx_ss, cm_ii, cm_ile, cm_igt, cm_ige, isl_l, isl_c, isl_s, iss_s, iss_l, b_ok, b_st, b_ex, o_ok, o_st, o_ex, c_ok, c_st, c_ex, fin_rt, fin_nx, fin_st, nx_nx, nx_rt, nx_bk, nx_ct, nx_ex, nx_st, e_seq, e_var, e_c, e_op, e_un, e_nil, e_cons, e_call, e_tup, e_lst, e_otup, e_olst, e_gd, e_asg, e_drop, e_ret, e_retN, e_next, e_brk, e_cont, e_ifs, e_setS, e_aug, e_augS, e_tru, e_bl, e_and, e_or, e_not, e_andV, e_orV, e_notV, e_if, e_chain, e_nop, e_part, e_sl, e_iSeq, e_iR1, e_iR2, rngOk_of, rngOk2_of, e_for, e_lc, e_yes, e_mt, e_mt2, e_join, e_put, e_fits, Tg.put, TgL.puts, startP, row_len, rngOk_of h0 h1, h2, rngP_eq, this, cut_tree0]
theorem agrees_lst (a b c d e f : Bool) (m : M) : oEq (.lst [.bl a, .bl b, .bl c]) (.lst [.bl d, .bl e, .bl f]) m = .ok (.bl (a == d && (b == e && c == f))) m := by
  rw [eq_ll]
  unfold eqDat
  have s : ∀ x y z : Bool, SeqAt.shaped (.list [.bool x, .bool y, .bool z]) = true := by decide
  simp only [sh_l, P.data, P.datas, Option.map_some, s, Bool.and_self, if_true, PyData.eqv, PyData.eqvAll, Bool.and_true]
theorem sgn_facts {a b : List Kv} (ha : ∀ v ∈ a, v.Good) (hb : ∀ v ∈ b, v.Good) : rowLt a b = decide (sgn a b < 0) ∧ decide (a = b) = decide (sgn a b = 0) ∧ rowLt b a = decide (0 < sgn a b) := by
  by_cases h : a = b
  · subst h
    simp [sgn, rowLt_self]
  · have ht := row_tri ha hb h
    cases hl : rowLt a b <;> simp [sgn, h, hl, ht]
theorem agrees_of {x y : P} {s : Int} {m : M} (hx : ∃ xs, x = .tup xs) (hy : ∃ ys, y = .tup ys) (h1 : oCm .lt x y m = .ok (.bl (decide (s < 0))) m) (h2 : oEq x y m = .ok (.bl (decide (s = 0))) m) (h3 : oCm .gt x y m = .ok (.bl (decide (0 < s))) m) : f_agrees [x, y, .int s] m = .ok (.bl true) m := by
  obtain ⟨xs, rfl⟩ := hx
  obtain ⟨ys, rfl⟩ := hy
  unfold f_agrees fnC fnF fb_agrees
  simp [mkL_f, mkL_t, wipeP, mulOk, lw_l, lw_c, lv_l, lv_c, lv_x, sv_l, sv_c, sv_x, sv_t, lw_i, lw_s, lw_t, lv_s, lv_t, lv_i, lv_n, add_ii, add_ss, add_tt, add_ll, add_lc, add_cl, add_cc, sub_ii, plus_ii, mul_ii, mul_li, fdv_ii, mod_ii, pow_ii, neg_i, sh_i, sh_s, sh_t, sh_l, sh_n, sh_b, sh_c, eq_nn, ne_nn, eq_ni, ne_ni, eq_in, ne_in, eq_nb, ne_nb, eq_bn, ne_bn, eq_ns, ne_ns, eq_sn, ne_sn, eq_ii, ne_ii, eq_bb, ne_bb, eq_ss, ne_ss, eq_is, ne_is, eq_si, ne_si, eq_bs, ne_bs, eq_sb, ne_sb, isn_n, non_n, isn_i, non_i, isn_b, non_b, isn_s, non_s, isn_t, non_t, isn_l, non_l, isn_c, non_c, isn_x, non_x, tru_n, tru_b, tru_i, tru_t, tru_l, notv_b, ix_t, ix_s, ix_l, ix_x, ix_c, ixl_c, sl_t, sl_s, sl_l, sl_c, rev_l, rev_c, len_t, len_l, len_x, len_s, len_c, list_t, list_l, list_x, list_c, tuple_t, tuple_l, tuple_c, int_i, int_b, abs_i, ord_s, isi_n, isi_b, isi_i, isi_s, isi_t, isi_l, isi_c, kindc, max_ii, min_ii, app_c, ext_c, set_c, sidx_ss, cm_ii, cm_ile, cm_igt, cm_ige, isl_l, isl_c, isl_s, iss_s, iss_l, b_ok, b_st, b_ex, o_ok, o_st, o_ex, c_ok, c_st, c_ex, fin_rt, fin_nx, fin_st, nx_nx, nx_rt, nx_bk, nx_ct, nx_ex, nx_st, e_seq, e_var, e_c, e_op, e_un, e_nil, e_cons, e_call, e_tup, e_lst, e_otup, e_olst, e_gd, e_asg, e_drop, e_ret, e_retN, e_next, e_brk, e_cont, e_ifs, e_setS, e_aug, e_augS, e_tru, e_bl, e_and, e_or, e_not, e_andV, e_orV, e_notV, e_if, e_chain, e_nop, e_part, e_sl, e_iSeq, e_iR1, e_iR2, rngOk_of, rngOk2_of, e_for, e_lc, e_yes, e_mt, e_mt2, e_join, e_put, e_fits, Tg.put, TgL.puts, startP, h1, h2, h3, agrees_lst, cut_tree0]
theorem agrees_keys {a b : List Kv} (ha : ∀ v ∈ a, v.Good) (hb : ∀ v ∈ b, v.Good) (m : M) : f_agrees [ip (keyB a), ip (keyB b), .int (sgn a b)] m = .ok (.bl true) m := by
  obtain ⟨s1, s2, s3⟩ := sgn_facts ha hb
  refine agrees_of ⟨_, rfl⟩ ⟨_, rfl⟩ ?_ ?_ ?_
  · simp only [ip, cm_ints, cmI, keyB_lt a b ha hb, s1]
  · have : decide (keyB a = keyB b) = decide (a = b) := by
      rw [decide_eq_decide]
      exact ⟨keyB_inj a b ha hb, fun h => by rw [h]⟩
    simp only [ip, eq_tints, this, s2]
  · simp only [ip, cm_ints, cmI, keyB_lt b a hb ha, s3]
theorem agrees_rops {a b : List Kv} (ha : ∀ v ∈ a, v.Good) (hb : ∀ v ∈ b, v.Good) (m : M) : f_agrees [rop a, rop b, .int (sgn a b)] m = .ok (.bl true) m := by
  obtain ⟨s1, s2, s3⟩ := sgn_facts ha hb
  refine agrees_of ⟨_, rfl⟩ ⟨_, rfl⟩ ?_ ?_ ?_
  · obtain ⟨r, h1, h2, _⟩ := cm_rops (o := .lt) ha hb m
    rw [h1, h2 rfl, s1]
  · rw [eq_rops ha hb, s2]
  · obtain ⟨r, h1, _, h2⟩ := cm_rops (o := .gt) ha hb m
    rw [h1, h2 rfl, s3]

end
/-! K6 -/
section
open PySem PySem.Spec PyProof.Rows
/-! ### the law's reading -/
theorem cut_from {α : Type} (l : List α) (a : Nat) : cutL l (some (a : Int)) none = l.drop a := by
  unfold cutL HT.sIx
  simp only [show ¬ ((a : Int) < 0) by omega, if_false]
  have h1 : ((a : Int)).toNat = a := by omega
  rw [h1]
  by_cases h : a ≤ l.length
  · rw [Nat.min_eq_left h, List.take_of_length_le (by rw [List.length_drop]; omega)]
  · rw [Nat.min_eq_right (by omega), List.drop_length, List.take_nil, List.drop_of_length_le (by omega)]
theorem cut_to {α : Type} (l : List α) (a : Nat) : cutL l none (some (a : Int)) = l.take a := by
  unfold cutL HT.sIx
  simp only [show ¬ ((a : Int) < 0) by omega, if_false, List.drop_zero, Nat.sub_zero]
  have h1 : ((a : Int)).toNat = a := by omega
  rw [h1]
  by_cases h : a ≤ l.length
  · rw [Nat.min_eq_left h]
  · rw [Nat.min_eq_right (by omega), List.take_of_length_le (Nat.le_refl _), List.take_of_length_le (by omega)]
def good (c : Int) : Bool := decide (32 ≤ c ∧ c ≤ 126 ∧ c ≠ 37)
theorem txtAt_first : ∀ (n : Nat) (acc : List Nat) (cs r : List Int), 0 ∉ cs → txtAt n acc (cs ++ 0 :: r) = if cs.length < n ∧ cs.all good = true then some (acc ++ cs.map Int.toNat) else none
  | 0, acc, cs, r, h => by simp [txtAt]
  | n + 1, acc, [], r, h => by simp [txtAt]
  | n + 1, acc, c :: cs, r, h => by
    have hc : c ≠ 0 := fun e => h (by rw [e]; exact List.mem_cons_self)
    have ih := txtAt_first n (acc ++ [c.toNat]) cs r (fun q => h (List.mem_cons_of_mem _ q))
    rw [List.cons_append, txtAt, if_neg hc]
    by_cases hg : 32 ≤ c ∧ c ≤ 126 ∧ c ≠ 37
    · rw [if_pos hg, ih]
      have : good c = true := decide_eq_true hg
      simp [this]
    · rw [if_neg hg, if_neg]
      simp only [List.all_cons, Bool.and_eq_true, not_and]
      intro _ q
      exact absurd (of_decide_eq_true q) hg
theorem txtAt_no : ∀ (n : Nat) (acc : List Nat) (r : List Int), 0 ∉ r → txtAt n acc r = none
  | 0, _, _, _ => rfl
  | _ + 1, _, [], _ => rfl
  | n + 1, acc, c :: r, h => by
    have hc : c ≠ 0 := fun e => h (by rw [e]; exact List.mem_cons_self)
    rw [txtAt, if_neg hc]
    split
    · exact txtAt_no n _ r fun q => h (List.mem_cons_of_mem _ q)
    · rfl
theorem first0 : ∀ {r : List Int}, 0 ∈ r → ∃ cs r', r = cs ++ 0 :: r' ∧ 0 ∉ cs
  | [], h => by cases h
  | c :: r, h => by
    by_cases e : c = 0
    · subst e; exact ⟨[], r, rfl, by simp⟩
    · obtain ⟨cs, r', h1, h2⟩ := first0 (r := r) ((List.mem_cons.mp h).resolve_left fun q => e q.symm)
      exact ⟨c :: cs, r', by rw [h1]; rfl, by simp [h2]; exact fun q => e q.symm⟩
theorem all_flat (l : List Int) : (l.map P.int).all flatP = true := by simp [flatP]
theorem any_int (x : Int) (l : List Int) : ((l.map P.int).any fun y => eqFP y (.int x)) = decide (x ∈ l) := by
  rw [Bool.eq_iff_iff]
  simp [eqFP]
theorem in_ints (x : Int) (l : List Int) (m : M) : oIn (.int x) (.tup (l.map .int)) m = .ok (.bl (decide (x ∈ l))) m := by
  unfold oIn
  simp only [sv_t, all_flat, flatP, Bool.and_self, if_true, any_int]
theorem idx_ints {cs r : List Int} (h : 0 ∉ cs) (m : M) : oLIndex (.lst ((cs ++ 0 :: r).map .int)) [.int 0] m = .ok (.int ((cs.length : Nat) : Int)) m := by
  have hf : ((cs ++ 0 :: r).map P.int).findIdx? (fun z => eqFP z (.int 0)) = some cs.length := by
    rw [List.findIdx?_eq_some_iff_getElem]
    refine ⟨by simp, by simp [eqFP], fun j hj => ?_⟩
    simp only [List.getElem_map, List.getElem_append_left hj, eqFP, beq_iff_eq]
    intro e
    exact h (by rw [← e]; exact List.getElem_mem hj)
  unfold oLIndex
  simp only [lv_l, all_flat, flatP, Bool.and_self, if_true, hf]
theorem lcG_filter {i : Nat} {tt : FT} {te : FE} {ρ : Env} {m : M} {p : Int → Bool} : ∀ {xs : List Int}, (∀ x ∈ xs, tt (ρ.set i (some (.int x))) m = .ok (p x) m) → (∀ x ∈ xs, te (ρ.set i (some (.int x))) m = .ok (.int x) m) → lcG (.name i) tt te [] ρ (xs.map .int) m = .ok ((xs.filter p).map .int) m
  | [], _, _ => lcG_nil
  | x :: xs, h1, h2 => by
    rw [List.map_cons, lcG_cons]
    simp only [Tg.put, h1 x List.mem_cons_self, Res.calm, Res.bind]
    have ih := lcG_filter (xs := xs) (fun y hy => h1 y (List.mem_cons_of_mem _ hy)) fun y hy => h2 y (List.mem_cons_of_mem _ hy)
    cases hp : p x with
    | true => simp [h2 x List.mem_cons_self, Res.calm, Res.bind, ih, List.filter_cons, hp]
    | false => simp [ih, List.filter_cons, hp]
theorem read_loop (k : List Int) (m : M) (hk : k.length ≤ 80000) : ∀ (f t a j : Nat) (acc : List Kv) (o3 o4 o5 o6 o7 : Option P), (k.drop a).length < f → (k.drop a).length ≤ t → a ≤ k.length → acc.length + (k.drop a).length ≤ 80000 → ∃ xs,
    (forG (.name 3) (fSeq (fIfS (fBl (fOp oEq (fVar 2) (fCall oLen (fCons (fVar 0) fNil)))) (fRet (fCall oTuple (fCons (fVar 1) fNil))) fNext)
  (fIfS (fAnd (fBl (fOp oEq (fOp oIx (fVar 0) (fVar 2)) (fC (.int 1)))) (fBl (fOp (oCm .le) (fOp (oAdd false) (fVar 2) (fC (.int 6))) (fCall oLen (fCons (fVar 0) fNil))))) (fSeq (fAsg (.name 4) (fC (.int 0)))
  (fSeq (fFor (iSeq (fSl false (fVar 0) (fPart (fOp (oAdd false) (fVar 2) (fC (.int 1)))) (fPart (fOp (oAdd false) (fVar 2) (fC (.int 6)))))) (.name 5) (fAsg (.name 4) (fOp (oAdd false) (fOp (oMul false) (fVar 4) (fC (.int 256))) (fVar 5))))
  (fSeq (fAsg (.name 4) (fOp oSub (fVar 4) (fC (.int 549755813888))))
  (fSeq (fIfS (fBl (fOp (oCm .gt) (fCall oAbs (fCons (fVar 4) fNil)) (fOp oPow (fC (.int 10)) (fC (.int 9))))) (fRet (fC .non)) fNext)
  (fSeq (fDrop (fMt isL oAppend (fVar 1) (fCons (fVar 4) fNil)))
  (fAsg (.name 2) (fOp (oAdd false) (fVar 2) (fC (.int 6))))))))) (fIfS (fAnd (fBl (fOp oEq (fOp oIx (fVar 0) (fVar 2)) (fC (.int 2)))) (fBl (fOp oIn (fC (.int 0)) (fSl false (fVar 0) (fPart (fVar 2)) fNoPart)))) (fSeq (fAsg (.name 6) (fSl false (fVar 0) (fPart (fOp (oAdd false) (fVar 2) (fC (.int 1)))) (fPart (fOp (oAdd false) (fVar 2) (fMt2 isL isS oLIndex oSIndex (fCall (oList false) (fCons (fSl false (fVar 0) (fPart (fVar 2)) fNoPart) fNil)) (fCons (fC (.int 0)) fNil))))))
  (fSeq (fIfS (fOr (fBl (fOp (oCm .gt) (fCall oLen (fCons (fVar 6) fNil)) (fC (.int 6)))) (fBl (fOp oNe (fLc false (iSeq (fVar 6)) (.name 7) (fOr (fBl (fOp (oCm .lt) (fVar 7) (fC (.int 32)))) (fOr (fBl (fOp oEq (fVar 7) (fC (.int 37)))) (fBl (fOp (oCm .gt) (fVar 7) (fC (.int 126)))))) (fVar 7) [7]) (fLst false fNil)))) (fRet (fC .non)) fNext)
  (fSeq (fDrop (fMt isL oAppend (fVar 1) (fCons (fJoin (fC (.str ("" : Str))) (fLc false (iSeq (fVar 6)) (.name 7) fYes (fOp oIx (fCall (gd 0 f_characters) fNil) (fOp oSub (fOp oSub (fVar 7) (fC (.int 32))) (fCall oInt (fCons (fOp (oCm .gt) (fVar 7) (fC (.int 37))) fNil)))) [7])) fNil)))
  (fAsg (.name 2) (fOp (oAdd false) (fOp (oAdd false) (fVar 2) (fCall oLen (fCons (fVar 6) fNil))) (fC (.int 2))))))) (fRet (fC .non))))) [] ((List.range' j t).map fun (i : Nat) => .int (i : Int)) [some (ip k), some (.cell m.length), some (.int a), o3, o4, o5, o6, o7] (m ++ [.lst (acc.map kp)])).next (fRet (fOp oIx (fLst false (fCons (fC .non) (fCons (fCall oTuple (fCons (fVar 1) fNil)) fNil))) (fCall oInt (fCons (fOp oEq (fVar 2) (fCall oLen (fCons (fVar 0) fNil))) fNil)))) = .rt (optP rp (dec f (k.drop a) acc)) (m ++ [.lst xs])
  | 0, _, _, _, _, _, _, _, _, _, h, _, _, _ => by omega
  | f + 1, 0, a, j, acc, o3, o4, o5, o6, o7, hf, ht, hle, hl => by
    have h0 : k.drop a = [] := List.length_eq_zero_iff.mp (by omega)
    have ha : (a : Int) = (k.length : Int) := by
      have := congrArg List.length h0
      simp at this
      omega
    refine ⟨acc.map kp, ?_⟩
    rw [h0]
    have hip : ∀ n, oLen [ip k] n = .ok (.int (k.length : Int)) n := fun n => by simp only [ip, len_t, List.length_map]
    simp [forG_nil, mkL_f, mkL_t, wipeP, mulOk, lw_l, lw_c, lv_l, lv_c, lv_x, sv_l, sv_c, sv_x, sv_t, lw_i, lw_s, lw_t, lv_s, lv_t, lv_i, lv_n, add_ii, add_ss, add_tt, add_ll, add_lc, add_cl, add_cc, sub_ii, plus_ii, mul_ii, mul_li, fdv_ii, mod_ii, pow_ii, neg_i, sh_i, sh_s, sh_t, sh_l, sh_n, sh_b, sh_c, eq_nn, ne_nn, eq_ni, ne_ni, eq_in, ne_in, eq_nb, ne_nb, eq_bn, ne_bn, eq_ns, ne_ns, eq_sn, ne_sn, eq_ii, ne_ii, eq_bb, ne_bb, eq_ss, ne_ss, eq_is, ne_is, eq_si, ne_si, eq_bs, ne_bs, eq_sb, ne_sb, isn_n, non_n, isn_i, non_i, isn_b, non_b, isn_s, non_s, isn_t, non_t, isn_l, non_l, isn_c, non_c, isn_x, non_x, tru_n, tru_b, tru_i, tru_t, tru_l, notv_b, ix_t, ix_s, ix_l, ix_x, ix_c, ixl_c, sl_t, sl_s, sl_l, sl_c, rev_l, rev_c, len_t, len_l, len_x, len_s, len_c, list_t, list_l, list_x, list_c, tuple_t, tuple_l, tuple_c, int_i, int_b, abs_i, ord_s, isi_n, isi_b, isi_i, isi_s, isi_t, isi_l, isi_c, kindc, max_ii, min_ii, app_c, ext_c, set_c, sidx_ss, cm_ii, cm_ile, cm_igt, cm_ige, isl_l, isl_c, isl_s, iss_s, iss_l, b_ok, b_st, b_ex, o_ok, o_st, o_ex, c_ok, c_st, c_ex, fin_rt, fin_nx, fin_st, nx_nx, nx_rt, nx_bk, nx_ct, nx_ex, nx_st, e_seq, e_var, e_c, e_op, e_un, e_nil, e_cons, e_call, e_tup, e_lst, e_otup, e_olst, e_gd, e_asg, e_drop, e_ret, e_retN, e_next, e_brk, e_cont, e_ifs, e_setS, e_aug, e_augS, e_tru, e_bl, e_and, e_or, e_not, e_andV, e_orV, e_notV, e_if, e_chain, e_nop, e_part, e_sl, e_iSeq, e_iR1, e_iR2, rngOk_of, rngOk2_of, e_for, e_lc, e_yes, e_mt, e_mt2, e_join, e_put, e_fits, Tg.put, TgL.puts, hip, ha, dec, optP_s, rp, atI_1]
  | f + 1, t + 1, a, j, acc, o3, o4, o5, o6, o7, hf, ht, hle, hl => by
    have hip : ∀ n, oLen [ip k] n = .ok (.int (k.length : Int)) n := fun n => by simp only [ip, len_t, List.length_map]
    rw [List.range'_succ, List.map_cons, forG_cons]
    cases hr : k.drop a with
    | nil =>
      have ha : (a : Int) = (k.length : Int) := by
        have := congrArg List.length hr
        simp at this
        omega
      refine ⟨acc.map kp, ?_⟩
      simp [mkL_f, mkL_t, wipeP, mulOk, lw_l, lw_c, lv_l, lv_c, lv_x, sv_l, sv_c, sv_x, sv_t, lw_i, lw_s, lw_t, lv_s, lv_t, lv_i, lv_n, add_ii, add_ss, add_tt, add_ll, add_lc, add_cl, add_cc, sub_ii, plus_ii, mul_ii, mul_li, fdv_ii, mod_ii, pow_ii, neg_i, sh_i, sh_s, sh_t, sh_l, sh_n, sh_b, sh_c, eq_nn, ne_nn, eq_ni, ne_ni, eq_in, ne_in, eq_nb, ne_nb, eq_bn, ne_bn, eq_ns, ne_ns, eq_sn, ne_sn, eq_ii, ne_ii, eq_bb, ne_bb, eq_ss, ne_ss, eq_is, ne_is, eq_si, ne_si, eq_bs, ne_bs, eq_sb, ne_sb, isn_n, non_n, isn_i, non_i, isn_b, non_b, isn_s, non_s, isn_t, non_t, isn_l, non_l, isn_c, non_c, isn_x, non_x, tru_n, tru_b, tru_i, tru_t, tru_l, notv_b, ix_t, ix_s, ix_l, ix_x, ix_c, ixl_c, sl_t, sl_s, sl_l, sl_c, rev_l, rev_c, len_t, len_l, len_x, len_s, len_c, list_t, list_l, list_x, list_c, tuple_t, tuple_l, tuple_c, int_i, int_b, abs_i, ord_s, isi_n, isi_b, isi_i, isi_s, isi_t, isi_l, isi_c, kindc, max_ii, min_ii, app_c, ext_c, set_c, sidx_ss, cm_ii, cm_ile, cm_igt, cm_ige, isl_l, isl_c, isl_s, iss_s, iss_l, b_ok, b_st, b_ex, o_ok, o_st, o_ex, c_ok, c_st, c_ex, fin_rt, fin_nx, fin_st, nx_nx, nx_rt, nx_bk, nx_ct, nx_ex, nx_st, e_seq, e_var, e_c, e_op, e_un, e_nil, e_cons, e_call, e_tup, e_lst, e_otup, e_olst, e_gd, e_asg, e_drop, e_ret, e_retN, e_next, e_brk, e_cont, e_ifs, e_setS, e_aug, e_augS, e_tru, e_bl, e_and, e_or, e_not, e_andV, e_orV, e_notV, e_if, e_chain, e_nop, e_part, e_sl, e_iSeq, e_iR1, e_iR2, rngOk_of, rngOk2_of, e_for, e_lc, e_yes, e_mt, e_mt2, e_join, e_put, e_fits, Tg.put, TgL.puts, hip, ha, dec, optP_s, rp]
    | cons c r =>
      obtain ⟨h1, h2, h3⟩ := drop_at hr
      have ha : ¬ (a : Int) = (k.length : Int) := by omega
      rw [hr] at hf ht hl
      simp only [List.length_cons] at hf ht hl
      have hrl : r.length = k.length - (a + 1) := by rw [← h2, List.length_drop]
      have hix : ∀ n, oIx (ip k) (.int a) n = .ok (.int c) n := fun n => by
        simp only [ip, ix_t, atI_nat', List.getElem?_map, h1, Option.map_some]
      rw [dec]
      by_cases hc1 : c = 1
      · subst hc1
        rw [if_pos rfl]
        by_cases h5 : r.length < 5
        · have h6 : ¬ ((a : Int) + 6 ≤ (k.length : Int)) := by omega
          have hi : intAt r = none := by unfold intAt; rw [if_pos h5]
          refine ⟨acc.map kp, ?_⟩
          rw [hi]
          simp [mkL_f, mkL_t, wipeP, mulOk, lw_l, lw_c, lv_l, lv_c, lv_x, sv_l, sv_c, sv_x, sv_t, lw_i, lw_s, lw_t, lv_s, lv_t, lv_i, lv_n, add_ii, add_ss, add_tt, add_ll, add_lc, add_cl, add_cc, sub_ii, plus_ii, mul_ii, mul_li, fdv_ii, mod_ii, pow_ii, neg_i, sh_i, sh_s, sh_t, sh_l, sh_n, sh_b, sh_c, eq_nn, ne_nn, eq_ni, ne_ni, eq_in, ne_in, eq_nb, ne_nb, eq_bn, ne_bn, eq_ns, ne_ns, eq_sn, ne_sn, eq_ii, ne_ii, eq_bb, ne_bb, eq_ss, ne_ss, eq_is, ne_is, eq_si, ne_si, eq_bs, ne_bs, eq_sb, ne_sb, isn_n, non_n, isn_i, non_i, isn_b, non_b, isn_s, non_s, isn_t, non_t, isn_l, non_l, isn_c, non_c, isn_x, non_x, tru_n, tru_b, tru_i, tru_t, tru_l, notv_b, ix_t, ix_s, ix_l, ix_x, ix_c, ixl_c, sl_t, sl_s, sl_l, sl_c, rev_l, rev_c, len_t, len_l, len_x, len_s, len_c, list_t, list_l, list_x, list_c, tuple_t, tuple_l, tuple_c, int_i, int_b, abs_i, ord_s, isi_n, isi_b, isi_i, isi_s, isi_t, isi_l, isi_c, kindc, max_ii, min_ii, app_c, ext_c, set_c, sidx_ss, cm_ii, cm_ile, cm_igt, cm_ige, isl_l, isl_c, isl_s, iss_s, iss_l, b_ok, b_st, b_ex, o_ok, o_st, o_ex, c_ok, c_st, c_ex, fin_rt, fin_nx, fin_st, nx_nx, nx_rt, nx_bk, nx_ct, nx_ex, nx_st, e_seq, e_var, e_c, e_op, e_un, e_nil, e_cons, e_call, e_tup, e_lst, e_otup, e_olst, e_gd, e_asg, e_drop, e_ret, e_retN, e_next, e_brk, e_cont, e_ifs, e_setS, e_aug, e_augS, e_tru, e_bl, e_and, e_or, e_not, e_andV, e_orV, e_notV, e_if, e_chain, e_nop, e_part, e_sl, e_iSeq, e_iR1, e_iR2, rngOk_of, rngOk2_of, e_for, e_lc, e_yes, e_mt, e_mt2, e_join, e_put, e_fits, Tg.put, TgL.puts, hip, ha, hix, h6, optP_n]
        · have h6 : (a : Int) + 6 ≤ (k.length : Int) := by omega
          have hsl : ∀ n, oSl false (ip k) (some ((a : Int) + 1)) (some ((a : Int) + 6)) n = .ok (.tup ((r.take 5).map .int)) n := fun n => by
            have := cut_nat (k.map P.int) (a + 1) 5
            rw [← List.map_drop, ← List.map_take, h2] at this
            have e1 : (((a + 1 : Nat) : Int)) = (a : Int) + 1 := by omega
            have e2 : (((a + 1 : Nat) : Int)) + ((5 : Nat) : Int) = (a : Int) + 6 := by omega
            rw [e2, e1] at this
            simp only [ip, sl_t, this]
          have hd : (k.drop (a + 6)) = r.drop 5 := by rw [← h2, List.drop_drop]
          have hdl : (r.drop 5).length = r.length - 5 := List.length_drop
          unfold intAt
          rw [if_neg h5]
          generalize hs : r.take 5 = s at *
          have hsl5 : s.length = 5 := by rw [← hs, List.length_take]; omega
          match s, hsl5 with
          | [x0, x1, x2, x3, x4], _ =>
            have hz : foldB [x0, x1, x2, x3, x4] = ((((x0 * 256 + x1) * 256 + x2) * 256 + x3) * 256 + x4) := by simp [foldB]; omega
            rw [hz]
            generalize hw : ((((x0 * 256 + x1) * 256 + x2) * 256 + x3) * 256 + x4) = w at *
            by_cases hb : inB (w - 549755813888) = true
            · rw [if_pos hb]
              have hb' := of_decide_eq_true hb
              have habs : ¬ (1000000000 < (if w - 549755813888 < 0 then -(w - 549755813888) else w - 549755813888)) := by split <;> omega
              obtain ⟨xs, hx⟩ := read_loop k m hk f t (a + 6) (j + 1) (acc ++ [.n (w - 549755813888)]) (some (.int j)) (some (.int (w - 549755813888))) (some (.int x4)) o6 o7 (by rw [hd]; omega) (by rw [hd]; omega) (by omega) (by rw [hd, List.length_append, List.length_singleton]; omega)
              refine ⟨xs, ?_⟩
              have e6 : ((a + 6 : Nat) : Int) = (a : Int) + 6 := by omega
              rw [hd, e6] at hx
              have hlen : acc.length < 100000 := by omega
              simp [kp] at hx
              simp [mkL_f, mkL_t, wipeP, mulOk, lw_l, lw_c, lv_l, lv_c, lv_x, sv_l, sv_c, sv_x, sv_t, lw_i, lw_s, lw_t, lv_s, lv_t, lv_i, lv_n, add_ii, add_ss, add_tt, add_ll, add_lc, add_cl, add_cc, sub_ii, plus_ii, mul_ii, mul_li, fdv_ii, mod_ii, pow_ii, neg_i, sh_i, sh_s, sh_t, sh_l, sh_n, sh_b, sh_c, eq_nn, ne_nn, eq_ni, ne_ni, eq_in, ne_in, eq_nb, ne_nb, eq_bn, ne_bn, eq_ns, ne_ns, eq_sn, ne_sn, eq_ii, ne_ii, eq_bb, ne_bb, eq_ss, ne_ss, eq_is, ne_is, eq_si, ne_si, eq_bs, ne_bs, eq_sb, ne_sb, isn_n, non_n, isn_i, non_i, isn_b, non_b, isn_s, non_s, isn_t, non_t, isn_l, non_l, isn_c, non_c, isn_x, non_x, tru_n, tru_b, tru_i, tru_t, tru_l, notv_b, ix_t, ix_s, ix_l, ix_x, ix_c, ixl_c, sl_t, sl_s, sl_l, sl_c, rev_l, rev_c, len_t, len_l, len_x, len_s, len_c, list_t, list_l, list_x, list_c, tuple_t, tuple_l, tuple_c, int_i, int_b, abs_i, ord_s, isi_n, isi_b, isi_i, isi_s, isi_t, isi_l, isi_c, kindc, max_ii, min_ii, app_c, ext_c, set_c, sidx_ss, cm_ii, cm_ile, cm_igt, cm_ige, isl_l, isl_c, isl_s, iss_s, iss_l, b_ok, b_st, b_ex, o_ok, o_st, o_ex, c_ok, c_st, c_ex, fin_rt, fin_nx, fin_st, nx_nx, nx_rt, nx_bk, nx_ct, nx_ex, nx_st, e_seq, e_var, e_c, e_op, e_un, e_nil, e_cons, e_call, e_tup, e_lst, e_otup, e_olst, e_gd, e_asg, e_drop, e_ret, e_retN, e_next, e_brk, e_cont, e_ifs, e_setS, e_aug, e_augS, e_tru, e_bl, e_and, e_or, e_not, e_andV, e_orV, e_notV, e_if, e_chain, e_nop, e_part, e_sl, e_iSeq, e_iR1, e_iR2, rngOk_of, rngOk2_of, e_for, e_lc, e_yes, e_mt, e_mt2, e_join, e_put, e_fits, Tg.put, TgL.puts, hip, ha, hix, h6, hsl, forG_cons, forG_nil, hw, habs, hlen]
              simpa [kp] using hx
            · rw [if_neg hb]
              have hb' : ¬ (-1000000000 ≤ w - 549755813888 ∧ w - 549755813888 ≤ 1000000000) := fun q => hb (decide_eq_true q)
              have habs : 1000000000 < (if w - 549755813888 < 0 then -(w - 549755813888) else w - 549755813888) := by split <;> omega
              refine ⟨acc.map kp, ?_⟩
              simp [mkL_f, mkL_t, wipeP, mulOk, lw_l, lw_c, lv_l, lv_c, lv_x, sv_l, sv_c, sv_x, sv_t, lw_i, lw_s, lw_t, lv_s, lv_t, lv_i, lv_n, add_ii, add_ss, add_tt, add_ll, add_lc, add_cl, add_cc, sub_ii, plus_ii, mul_ii, mul_li, fdv_ii, mod_ii, pow_ii, neg_i, sh_i, sh_s, sh_t, sh_l, sh_n, sh_b, sh_c, eq_nn, ne_nn, eq_ni, ne_ni, eq_in, ne_in, eq_nb, ne_nb, eq_bn, ne_bn, eq_ns, ne_ns, eq_sn, ne_sn, eq_ii, ne_ii, eq_bb, ne_bb, eq_ss, ne_ss, eq_is, ne_is, eq_si, ne_si, eq_bs, ne_bs, eq_sb, ne_sb, isn_n, non_n, isn_i, non_i, isn_b, non_b, isn_s, non_s, isn_t, non_t, isn_l, non_l, isn_c, non_c, isn_x, non_x, tru_n, tru_b, tru_i, tru_t, tru_l, notv_b, ix_t, ix_s, ix_l, ix_x, ix_c, ixl_c, sl_t, sl_s, sl_l, sl_c, rev_l, rev_c, len_t, len_l, len_x, len_s, len_c, list_t, list_l, list_x, list_c, tuple_t, tuple_l, tuple_c, int_i, int_b, abs_i, ord_s, isi_n, isi_b, isi_i, isi_s, isi_t, isi_l, isi_c, kindc, max_ii, min_ii, app_c, ext_c, set_c, sidx_ss, cm_ii, cm_ile, cm_igt, cm_ige, isl_l, isl_c, isl_s, iss_s, iss_l, b_ok, b_st, b_ex, o_ok, o_st, o_ex, c_ok, c_st, c_ex, fin_rt, fin_nx, fin_st, nx_nx, nx_rt, nx_bk, nx_ct, nx_ex, nx_st, e_seq, e_var, e_c, e_op, e_un, e_nil, e_cons, e_call, e_tup, e_lst, e_otup, e_olst, e_gd, e_asg, e_drop, e_ret, e_retN, e_next, e_brk, e_cont, e_ifs, e_setS, e_aug, e_augS, e_tru, e_bl, e_and, e_or, e_not, e_andV, e_orV, e_notV, e_if, e_chain, e_nop, e_part, e_sl, e_iSeq, e_iR1, e_iR2, rngOk_of, rngOk2_of, e_for, e_lc, e_yes, e_mt, e_mt2, e_join, e_put, e_fits, Tg.put, TgL.puts, hip, ha, hix, h6, hsl, forG_cons, forG_nil, hw, habs, optP_n]
      · by_cases hc2 : c = 2
        · subst hc2
          rw [if_neg hc1, if_pos rfl]
          have hsl : ∀ n, oSl false (ip k) (some (a : Int)) none n = .ok (.tup (((2 : Int) :: r).map .int)) n := fun n => by
            simp only [ip, sl_t, cut_from, ← List.map_drop, hr]
          by_cases h0 : 0 ∈ r
          · obtain ⟨cs, r', hcs, hno⟩ := first0 h0
            have hin : ∀ n, oIn (.int 0) (.tup (((2 : Int) :: r).map .int)) n = .ok (.bl true) n := fun n => by
              rw [in_ints]
              simp [h0]
            have hidx : ∀ n, oLIndex (.lst (((2 : Int) :: r).map .int)) [.int 0] n = .ok (.int ((cs.length : Int) + 1)) n := fun n => by
              have := idx_ints (cs := 2 :: cs) (r := r') (by simp [hno]) n
              rw [hcs]
              simpa using this
            have hcod : ∀ n, oSl false (ip k) (some ((a : Int) + 1)) (some ((a : Int) + ((cs.length : Int) + 1))) n = .ok (.tup (cs.map .int)) n := fun n => by
              have := cut_nat (k.map P.int) (a + 1) cs.length
              rw [← List.map_drop, ← List.map_take, h2, hcs, List.take_left'  rfl] at this
              have e1 : (((a + 1 : Nat) : Int)) = (a : Int) + 1 := by omega
              have e2 : (((a + 1 : Nat) : Int)) + ((cs.length : Nat) : Int) = (a : Int) + ((cs.length : Int) + 1) := by omega
              rw [e2, e1] at this
              simp only [ip, sl_t, this]
            have hrr : r.length = cs.length + (r'.length + 1) := by rw [hcs, List.length_append, List.length_cons]
            have hcl : cs.length ≤ 100000 := by omega
            -- the codes that are none of a text
            have hbad : ∀ (e1 e2 e3 e4 e5 e6 : Option P) n, lcG (.name 7) (fOr (fBl (fOp (oCm .lt) (fVar 7) (fC (.int 32)))) (fOr (fBl (fOp oEq (fVar 7) (fC (.int 37)))) (fBl (fOp (oCm .gt) (fVar 7) (fC (.int 126)))))) (fVar 7) [] [some (ip k), e1, e2, e3, e4, e5, e6, none] (cs.map .int) n = .ok ((cs.filter fun c => !good c).map .int) n := fun e1 e2 e3 e4 e5 e6 n => by
              refine lcG_filter (fun x _ => ?_) (fun x _ => by simp [mkL_f, mkL_t, wipeP, mulOk, lw_l, lw_c, lv_l, lv_c, lv_x, sv_l, sv_c, sv_x, sv_t, lw_i, lw_s, lw_t, lv_s, lv_t, lv_i, lv_n, add_ii, add_ss, add_tt, add_ll, add_lc, add_cl, add_cc, sub_ii, plus_ii, mul_ii, mul_li, fdv_ii, mod_ii, pow_ii, neg_i, sh_i, sh_s, sh_t, sh_l, sh_n, sh_b, sh_c, eq_nn, ne_nn, eq_ni, ne_ni, eq_in, ne_in, eq_nb, ne_nb, eq_bn, ne_bn, eq_ns, ne_ns, eq_sn, ne_sn, eq_ii, ne_ii, eq_bb, ne_bb, eq_ss, ne_ss, eq_is, ne_is, eq_si, ne_si, eq_bs, ne_bs, eq_sb, ne_sb, isn_n, non_n, isn_i, non_i, isn_b, non_b, isn_s, non_s, isn_t, non_t, isn_l, non_l, isn_c, non_c, isn_x, non_x, tru_n, tru_b, tru_i, tru_t, tru_l, notv_b, ix_t, ix_s, ix_l, ix_x, ix_c, ixl_c, sl_t, sl_s, sl_l, sl_c, rev_l, rev_c, len_t, len_l, len_x, len_s, len_c, list_t, list_l, list_x, list_c, tuple_t, tuple_l, tuple_c, int_i, int_b, abs_i, ord_s, isi_n, isi_b, isi_i, isi_s, isi_t, isi_l, isi_c, kindc, max_ii, min_ii, app_c, ext_c, set_c, sidx_ss, cm_ii, cm_ile, cm_igt, cm_ige, isl_l, isl_c, isl_s, iss_s, iss_l, b_ok, b_st, b_ex, o_ok, o_st, o_ex, c_ok, c_st, c_ex, fin_rt, fin_nx, fin_st, nx_nx, nx_rt, nx_bk, nx_ct, nx_ex, nx_st, e_seq, e_var, e_c, e_op, e_un, e_nil, e_cons, e_call, e_tup, e_lst, e_otup, e_olst, e_gd, e_asg, e_drop, e_ret, e_retN, e_next, e_brk, e_cont, e_ifs, e_setS, e_aug, e_augS, e_tru, e_bl, e_and, e_or, e_not, e_andV, e_orV, e_notV, e_if, e_chain, e_nop, e_part, e_sl, e_iSeq, e_iR1, e_iR2, rngOk_of, rngOk2_of, e_for, e_lc, e_yes, e_mt, e_mt2, e_join, e_put, e_fits, Tg.put, TgL.puts])
              unfold good
              by_cases q1 : x < 32
              · have : ¬ (32 ≤ x ∧ x ≤ 126 ∧ x ≠ 37) := by omega
                simp [mkL_f, mkL_t, wipeP, mulOk, lw_l, lw_c, lv_l, lv_c, lv_x, sv_l, sv_c, sv_x, sv_t, lw_i, lw_s, lw_t, lv_s, lv_t, lv_i, lv_n, add_ii, add_ss, add_tt, add_ll, add_lc, add_cl, add_cc, sub_ii, plus_ii, mul_ii, mul_li, fdv_ii, mod_ii, pow_ii, neg_i, sh_i, sh_s, sh_t, sh_l, sh_n, sh_b, sh_c, eq_nn, ne_nn, eq_ni, ne_ni, eq_in, ne_in, eq_nb, ne_nb, eq_bn, ne_bn, eq_ns, ne_ns, eq_sn, ne_sn, eq_ii, ne_ii, eq_bb, ne_bb, eq_ss, ne_ss, eq_is, ne_is, eq_si, ne_si, eq_bs, ne_bs, eq_sb, ne_sb, isn_n, non_n, isn_i, non_i, isn_b, non_b, isn_s, non_s, isn_t, non_t, isn_l, non_l, isn_c, non_c, isn_x, non_x, tru_n, tru_b, tru_i, tru_t, tru_l, notv_b, ix_t, ix_s, ix_l, ix_x, ix_c, ixl_c, sl_t, sl_s, sl_l, sl_c, rev_l, rev_c, len_t, len_l, len_x, len_s, len_c, list_t, list_l, list_x, list_c, tuple_t, tuple_l, tuple_c, int_i, int_b, abs_i, ord_s, isi_n, isi_b, isi_i, isi_s, isi_t, isi_l, isi_c, kindc, max_ii, min_ii, app_c, ext_c, set_c, sidx_ss, cm_ii, cm_ile, cm_igt, cm_ige, isl_l, isl_c, isl_s, iss_s, iss_l, b_ok, b_st, b_ex, o_ok, o_st, o_ex, c_ok, c_st, c_ex, fin_rt, fin_nx, fin_st, nx_nx, nx_rt, nx_bk, nx_ct, nx_ex, nx_st, e_seq, e_var, e_c, e_op, e_un, e_nil, e_cons, e_call, e_tup, e_lst, e_otup, e_olst, e_gd, e_asg, e_drop, e_ret, e_retN, e_next, e_brk, e_cont, e_ifs, e_setS, e_aug, e_augS, e_tru, e_bl, e_and, e_or, e_not, e_andV, e_orV, e_notV, e_if, e_chain, e_nop, e_part, e_sl, e_iSeq, e_iR1, e_iR2, rngOk_of, rngOk2_of, e_for, e_lc, e_yes, e_mt, e_mt2, e_join, e_put, e_fits, Tg.put, TgL.puts, q1, this]
              · by_cases q2 : x = 37
                · subst q2; simp [mkL_f, mkL_t, wipeP, mulOk, lw_l, lw_c, lv_l, lv_c, lv_x, sv_l, sv_c, sv_x, sv_t, lw_i, lw_s, lw_t, lv_s, lv_t, lv_i, lv_n, add_ii, add_ss, add_tt, add_ll, add_lc, add_cl, add_cc, sub_ii, plus_ii, mul_ii, mul_li, fdv_ii, mod_ii, pow_ii, neg_i, sh_i, sh_s, sh_t, sh_l, sh_n, sh_b, sh_c, eq_nn, ne_nn, eq_ni, ne_ni, eq_in, ne_in, eq_nb, ne_nb, eq_bn, ne_bn, eq_ns, ne_ns, eq_sn, ne_sn, eq_ii, ne_ii, eq_bb, ne_bb, eq_ss, ne_ss, eq_is, ne_is, eq_si, ne_si, eq_bs, ne_bs, eq_sb, ne_sb, isn_n, non_n, isn_i, non_i, isn_b, non_b, isn_s, non_s, isn_t, non_t, isn_l, non_l, isn_c, non_c, isn_x, non_x, tru_n, tru_b, tru_i, tru_t, tru_l, notv_b, ix_t, ix_s, ix_l, ix_x, ix_c, ixl_c, sl_t, sl_s, sl_l, sl_c, rev_l, rev_c, len_t, len_l, len_x, len_s, len_c, list_t, list_l, list_x, list_c, tuple_t, tuple_l, tuple_c, int_i, int_b, abs_i, ord_s, isi_n, isi_b, isi_i, isi_s, isi_t, isi_l, isi_c, kindc, max_ii, min_ii, app_c, ext_c, set_c, sidx_ss, cm_ii, cm_ile, cm_igt, cm_ige, isl_l, isl_c, isl_s, iss_s, iss_l, b_ok, b_st, b_ex, o_ok, o_st, o_ex, c_ok, c_st, c_ex, fin_rt, fin_nx, fin_st, nx_nx, nx_rt, nx_bk, nx_ct, nx_ex, nx_st, e_seq, e_var, e_c, e_op, e_un, e_nil, e_cons, e_call, e_tup, e_lst, e_otup, e_olst, e_gd, e_asg, e_drop, e_ret, e_retN, e_next, e_brk, e_cont, e_ifs, e_setS, e_aug, e_augS, e_tru, e_bl, e_and, e_or, e_not, e_andV, e_orV, e_notV, e_if, e_chain, e_nop, e_part, e_sl, e_iSeq, e_iR1, e_iR2, rngOk_of, rngOk2_of, e_for, e_lc, e_yes, e_mt, e_mt2, e_join, e_put, e_fits, Tg.put, TgL.puts]
                · by_cases q3 : 126 < x
                  · have : ¬ (32 ≤ x ∧ x ≤ 126 ∧ x ≠ 37) := by omega
                    simp [mkL_f, mkL_t, wipeP, mulOk, lw_l, lw_c, lv_l, lv_c, lv_x, sv_l, sv_c, sv_x, sv_t, lw_i, lw_s, lw_t, lv_s, lv_t, lv_i, lv_n, add_ii, add_ss, add_tt, add_ll, add_lc, add_cl, add_cc, sub_ii, plus_ii, mul_ii, mul_li, fdv_ii, mod_ii, pow_ii, neg_i, sh_i, sh_s, sh_t, sh_l, sh_n, sh_b, sh_c, eq_nn, ne_nn, eq_ni, ne_ni, eq_in, ne_in, eq_nb, ne_nb, eq_bn, ne_bn, eq_ns, ne_ns, eq_sn, ne_sn, eq_ii, ne_ii, eq_bb, ne_bb, eq_ss, ne_ss, eq_is, ne_is, eq_si, ne_si, eq_bs, ne_bs, eq_sb, ne_sb, isn_n, non_n, isn_i, non_i, isn_b, non_b, isn_s, non_s, isn_t, non_t, isn_l, non_l, isn_c, non_c, isn_x, non_x, tru_n, tru_b, tru_i, tru_t, tru_l, notv_b, ix_t, ix_s, ix_l, ix_x, ix_c, ixl_c, sl_t, sl_s, sl_l, sl_c, rev_l, rev_c, len_t, len_l, len_x, len_s, len_c, list_t, list_l, list_x, list_c, tuple_t, tuple_l, tuple_c, int_i, int_b, abs_i, ord_s, isi_n, isi_b, isi_i, isi_s, isi_t, isi_l, isi_c, kindc, max_ii, min_ii, app_c, ext_c, set_c, sidx_ss, cm_ii, cm_ile, cm_igt, cm_ige, isl_l, isl_c, isl_s, iss_s, iss_l, b_ok, b_st, b_ex, o_ok, o_st, o_ex, c_ok, c_st, c_ex, fin_rt, fin_nx, fin_st, nx_nx, nx_rt, nx_bk, nx_ct, nx_ex, nx_st, e_seq, e_var, e_c, e_op, e_un, e_nil, e_cons, e_call, e_tup, e_lst, e_otup, e_olst, e_gd, e_asg, e_drop, e_ret, e_retN, e_next, e_brk, e_cont, e_ifs, e_setS, e_aug, e_augS, e_tru, e_bl, e_and, e_or, e_not, e_andV, e_orV, e_notV, e_if, e_chain, e_nop, e_part, e_sl, e_iSeq, e_iR1, e_iR2, rngOk_of, rngOk2_of, e_for, e_lc, e_yes, e_mt, e_mt2, e_join, e_put, e_fits, Tg.put, TgL.puts, q1, q2, q3, this]
                  · have : 32 ≤ x ∧ x ≤ 126 ∧ x ≠ 37 := by omega
                    simp [mkL_f, mkL_t, wipeP, mulOk, lw_l, lw_c, lv_l, lv_c, lv_x, sv_l, sv_c, sv_x, sv_t, lw_i, lw_s, lw_t, lv_s, lv_t, lv_i, lv_n, add_ii, add_ss, add_tt, add_ll, add_lc, add_cl, add_cc, sub_ii, plus_ii, mul_ii, mul_li, fdv_ii, mod_ii, pow_ii, neg_i, sh_i, sh_s, sh_t, sh_l, sh_n, sh_b, sh_c, eq_nn, ne_nn, eq_ni, ne_ni, eq_in, ne_in, eq_nb, ne_nb, eq_bn, ne_bn, eq_ns, ne_ns, eq_sn, ne_sn, eq_ii, ne_ii, eq_bb, ne_bb, eq_ss, ne_ss, eq_is, ne_is, eq_si, ne_si, eq_bs, ne_bs, eq_sb, ne_sb, isn_n, non_n, isn_i, non_i, isn_b, non_b, isn_s, non_s, isn_t, non_t, isn_l, non_l, isn_c, non_c, isn_x, non_x, tru_n, tru_b, tru_i, tru_t, tru_l, notv_b, ix_t, ix_s, ix_l, ix_x, ix_c, ixl_c, sl_t, sl_s, sl_l, sl_c, rev_l, rev_c, len_t, len_l, len_x, len_s, len_c, list_t, list_l, list_x, list_c, tuple_t, tuple_l, tuple_c, int_i, int_b, abs_i, ord_s, isi_n, isi_b, isi_i, isi_s, isi_t, isi_l, isi_c, kindc, max_ii, min_ii, app_c, ext_c, set_c, sidx_ss, cm_ii, cm_ile, cm_igt, cm_ige, isl_l, isl_c, isl_s, iss_s, iss_l, b_ok, b_st, b_ex, o_ok, o_st, o_ex, c_ok, c_st, c_ex, fin_rt, fin_nx, fin_st, nx_nx, nx_rt, nx_bk, nx_ct, nx_ex, nx_st, e_seq, e_var, e_c, e_op, e_un, e_nil, e_cons, e_call, e_tup, e_lst, e_otup, e_olst, e_gd, e_asg, e_drop, e_ret, e_retN, e_next, e_brk, e_cont, e_ifs, e_setS, e_aug, e_augS, e_tru, e_bl, e_and, e_or, e_not, e_andV, e_orV, e_notV, e_if, e_chain, e_nop, e_part, e_sl, e_iSeq, e_iR1, e_iR2, rngOk_of, rngOk2_of, e_for, e_lc, e_yes, e_mt, e_mt2, e_join, e_put, e_fits, Tg.put, TgL.puts, q1, q2, q3, this]
            have hne : ∀ n, oNe (.lst ((cs.filter fun c => !good c).map .int)) (.lst []) n = .ok (.bl (!cs.all good)) n := fun n => by
              have := eqDat_lints (cs.filter fun c => !good c) [] n
              rw [List.map_nil] at this
              rw [ne_ll, this]
              have e : decide ((cs.filter fun c => !good c) = []) = cs.all good := by
                rw [Bool.eq_iff_iff]
                simp [List.filter_eq_nil_iff]
              simp only [e]
            have htx := txtAt_first 7 [] cs r' hno
            rw [← hcs] at htx
            rw [htx]
            by_cases hlong : cs.length < 7
            · have k1 : ¬ (6 < (cs.length : Int)) := by omega
              by_cases hall : cs.all good = true
              · rw [if_pos ⟨hlong, hall⟩]
                have hgood : ∀ c ∈ cs, 32 ≤ c ∧ c ≤ 126 ∧ c ≠ 37 := fun c hc => of_decide_eq_true (List.all_eq_true.mp hall c hc)
                have hchr : ∀ (e1 e2 e3 e4 e5 e6 : Option P) n, lcG (.name 7) fYes (fOp oIx (fCall (gd 0 f_characters) fNil) (fOp oSub (fOp oSub (fVar 7) (fC (.int 32))) (fCall oInt (fCons (fOp (oCm .gt) (fVar 7) (fC (.int 37))) fNil)))) [] [some (ip k), e1, e2, e3, e4, e5, e6, none] (cs.map .int) n = .ok ((cs.map Int.toNat).map fun c => .str ⟨#[c]⟩) n := fun e1 e2 e3 e4 e5 e6 n => by
                  rw [List.map_map]
                  refine lcG_map fun c hc => ?_
                  obtain ⟨q1, q2, q3⟩ := hgood c hc
                  by_cases q : 37 < c
                  · have e1 : c - 32 - 1 = ((c - 33).toNat : Int) := by omega
                    have e2 : (c - 33).toNat < 94 := by omega
                    have e3 : chr (c - 33).toNat = c.toNat := by unfold chr; rw [if_neg (by omega)]; omega
                    simp [mkL_f, mkL_t, wipeP, mulOk, lw_l, lw_c, lv_l, lv_c, lv_x, sv_l, sv_c, sv_x, sv_t, lw_i, lw_s, lw_t, lv_s, lv_t, lv_i, lv_n, add_ii, add_ss, add_tt, add_ll, add_lc, add_cl, add_cc, sub_ii, plus_ii, mul_ii, mul_li, fdv_ii, mod_ii, pow_ii, neg_i, sh_i, sh_s, sh_t, sh_l, sh_n, sh_b, sh_c, eq_nn, ne_nn, eq_ni, ne_ni, eq_in, ne_in, eq_nb, ne_nb, eq_bn, ne_bn, eq_ns, ne_ns, eq_sn, ne_sn, eq_ii, ne_ii, eq_bb, ne_bb, eq_ss, ne_ss, eq_is, ne_is, eq_si, ne_si, eq_bs, ne_bs, eq_sb, ne_sb, isn_n, non_n, isn_i, non_i, isn_b, non_b, isn_s, non_s, isn_t, non_t, isn_l, non_l, isn_c, non_c, isn_x, non_x, tru_n, tru_b, tru_i, tru_t, tru_l, notv_b, ix_t, ix_s, ix_l, ix_x, ix_c, ixl_c, sl_t, sl_s, sl_l, sl_c, rev_l, rev_c, len_t, len_l, len_x, len_s, len_c, list_t, list_l, list_x, list_c, tuple_t, tuple_l, tuple_c, int_i, int_b, abs_i, ord_s, isi_n, isi_b, isi_i, isi_s, isi_t, isi_l, isi_c, kindc, max_ii, min_ii, app_c, ext_c, set_c, sidx_ss, cm_ii, cm_ile, cm_igt, cm_ige, isl_l, isl_c, isl_s, iss_s, iss_l, b_ok, b_st, b_ex, o_ok, o_st, o_ex, c_ok, c_st, c_ex, fin_rt, fin_nx, fin_st, nx_nx, nx_rt, nx_bk, nx_ct, nx_ex, nx_st, e_seq, e_var, e_c, e_op, e_un, e_nil, e_cons, e_call, e_tup, e_lst, e_otup, e_olst, e_gd, e_asg, e_drop, e_ret, e_retN, e_next, e_brk, e_cont, e_ifs, e_setS, e_aug, e_augS, e_tru, e_bl, e_and, e_or, e_not, e_andV, e_orV, e_notV, e_if, e_chain, e_nop, e_part, e_sl, e_iSeq, e_iR1, e_iR2, rngOk_of, rngOk2_of, e_for, e_lc, e_yes, e_mt, e_mt2, e_join, e_put, e_fits, Tg.put, TgL.puts, characters_k, chs_len, q]
                    rw [e1, atI_nat', chs_at _ e2, e3]
                  · have e1 : c - 32 = ((c - 32).toNat : Int) := by omega
                    have e2 : (c - 32).toNat < 94 := by omega
                    have e3 : chr (c - 32).toNat = c.toNat := by unfold chr; rw [if_pos (by omega)]; omega
                    simp [mkL_f, mkL_t, wipeP, mulOk, lw_l, lw_c, lv_l, lv_c, lv_x, sv_l, sv_c, sv_x, sv_t, lw_i, lw_s, lw_t, lv_s, lv_t, lv_i, lv_n, add_ii, add_ss, add_tt, add_ll, add_lc, add_cl, add_cc, sub_ii, plus_ii, mul_ii, mul_li, fdv_ii, mod_ii, pow_ii, neg_i, sh_i, sh_s, sh_t, sh_l, sh_n, sh_b, sh_c, eq_nn, ne_nn, eq_ni, ne_ni, eq_in, ne_in, eq_nb, ne_nb, eq_bn, ne_bn, eq_ns, ne_ns, eq_sn, ne_sn, eq_ii, ne_ii, eq_bb, ne_bb, eq_ss, ne_ss, eq_is, ne_is, eq_si, ne_si, eq_bs, ne_bs, eq_sb, ne_sb, isn_n, non_n, isn_i, non_i, isn_b, non_b, isn_s, non_s, isn_t, non_t, isn_l, non_l, isn_c, non_c, isn_x, non_x, tru_n, tru_b, tru_i, tru_t, tru_l, notv_b, ix_t, ix_s, ix_l, ix_x, ix_c, ixl_c, sl_t, sl_s, sl_l, sl_c, rev_l, rev_c, len_t, len_l, len_x, len_s, len_c, list_t, list_l, list_x, list_c, tuple_t, tuple_l, tuple_c, int_i, int_b, abs_i, ord_s, isi_n, isi_b, isi_i, isi_s, isi_t, isi_l, isi_c, kindc, max_ii, min_ii, app_c, ext_c, set_c, sidx_ss, cm_ii, cm_ile, cm_igt, cm_ige, isl_l, isl_c, isl_s, iss_s, iss_l, b_ok, b_st, b_ex, o_ok, o_st, o_ex, c_ok, c_st, c_ex, fin_rt, fin_nx, fin_st, nx_nx, nx_rt, nx_bk, nx_ct, nx_ex, nx_st, e_seq, e_var, e_c, e_op, e_un, e_nil, e_cons, e_call, e_tup, e_lst, e_otup, e_olst, e_gd, e_asg, e_drop, e_ret, e_retN, e_next, e_brk, e_cont, e_ifs, e_setS, e_aug, e_augS, e_tru, e_bl, e_and, e_or, e_not, e_andV, e_orV, e_notV, e_if, e_chain, e_nop, e_part, e_sl, e_iSeq, e_iR1, e_iR2, rngOk_of, rngOk2_of, e_for, e_lc, e_yes, e_mt, e_mt2, e_join, e_put, e_fits, Tg.put, TgL.puts, characters_k, chs_len, q]
                    rw [e1, atI_nat', chs_at _ e2, e3]
                have hd : (k.drop (a + (cs.length + 2))) = r.drop ((cs.map Int.toNat).length + 1) := by rw [← h2, List.drop_drop, List.length_map]; congr 1; omega
                have hdl : (r.drop ((cs.map Int.toNat).length + 1)).length = r.length - (cs.length + 1) := by rw [List.length_drop, List.length_map]
                obtain ⟨xs, hx⟩ := read_loop k m hk f t (a + (cs.length + 2)) (j + 1) (acc ++ [.t (cs.map Int.toNat)]) (some (.int j)) o4 o5 (some (.tup (cs.map .int))) o7 (by rw [hd]; omega) (by rw [hd]; omega) (by omega) (by rw [hd, List.length_append, List.length_singleton]; omega)
                refine ⟨xs, ?_⟩
                have e6 : ((a + (cs.length + 2) : Nat) : Int) = (a : Int) + (cs.length : Int) + 2 := by omega
                rw [hd, e6] at hx
                have hlen : acc.length < 100000 := by omega
                have hj : ∀ n, oJoin (.str ("" : Str)) (.lst (cs.map ((fun c => P.str ⟨#[c]⟩) ∘ Int.toNat))) n = .ok (.str (strL (cs.map Int.toNat))) n := fun n => by
                  rw [← List.map_map]; exact join_k (cs.map Int.toNat) n (by rw [List.length_map]; omega)
                simp only [List.map_cons] at hsl hin hidx
                simp only [List.nil_append]
                simp [kp] at hx
                simp [mkL_f, mkL_t, wipeP, mulOk, lw_l, lw_c, lv_l, lv_c, lv_x, sv_l, sv_c, sv_x, sv_t, lw_i, lw_s, lw_t, lv_s, lv_t, lv_i, lv_n, add_ii, add_ss, add_tt, add_ll, add_lc, add_cl, add_cc, sub_ii, plus_ii, mul_ii, mul_li, fdv_ii, mod_ii, pow_ii, neg_i, sh_i, sh_s, sh_t, sh_l, sh_n, sh_b, sh_c, eq_nn, ne_nn, eq_ni, ne_ni, eq_in, ne_in, eq_nb, ne_nb, eq_bn, ne_bn, eq_ns, ne_ns, eq_sn, ne_sn, eq_ii, ne_ii, eq_bb, ne_bb, eq_ss, ne_ss, eq_is, ne_is, eq_si, ne_si, eq_bs, ne_bs, eq_sb, ne_sb, isn_n, non_n, isn_i, non_i, isn_b, non_b, isn_s, non_s, isn_t, non_t, isn_l, non_l, isn_c, non_c, isn_x, non_x, tru_n, tru_b, tru_i, tru_t, tru_l, notv_b, ix_t, ix_s, ix_l, ix_x, ix_c, ixl_c, sl_t, sl_s, sl_l, sl_c, rev_l, rev_c, len_t, len_l, len_x, len_s, len_c, list_t, list_l, list_x, list_c, tuple_t, tuple_l, tuple_c, int_i, int_b, abs_i, ord_s, isi_n, isi_b, isi_i, isi_s, isi_t, isi_l, isi_c, kindc, max_ii, min_ii, app_c, ext_c, set_c, sidx_ss, cm_ii, cm_ile, cm_igt, cm_ige, isl_l, isl_c, isl_s, iss_s, iss_l, b_ok, b_st, b_ex, o_ok, o_st, o_ex, c_ok, c_st, c_ex, fin_rt, fin_nx, fin_st, nx_nx, nx_rt, nx_bk, nx_ct, nx_ex, nx_st, e_seq, e_var, e_c, e_op, e_un, e_nil, e_cons, e_call, e_tup, e_lst, e_otup, e_olst, e_gd, e_asg, e_drop, e_ret, e_retN, e_next, e_brk, e_cont, e_ifs, e_setS, e_aug, e_augS, e_tru, e_bl, e_and, e_or, e_not, e_andV, e_orV, e_notV, e_if, e_chain, e_nop, e_part, e_sl, e_iSeq, e_iR1, e_iR2, rngOk_of, rngOk2_of, e_for, e_lc, e_yes, e_mt, e_mt2, e_join, e_put, e_fits, Tg.put, TgL.puts, hip, ha, hix, hsl, hin, hidx, hcod, hbad, hne, k1, hall, hlen, hcl, hchr, hj]
                simpa [kp] using hx
              · rw [if_neg (fun q => hall q.2)]
                refine ⟨acc.map kp, ?_⟩
                simp only [List.map_cons] at hsl hin hidx
                simp [mkL_f, mkL_t, wipeP, mulOk, lw_l, lw_c, lv_l, lv_c, lv_x, sv_l, sv_c, sv_x, sv_t, lw_i, lw_s, lw_t, lv_s, lv_t, lv_i, lv_n, add_ii, add_ss, add_tt, add_ll, add_lc, add_cl, add_cc, sub_ii, plus_ii, mul_ii, mul_li, fdv_ii, mod_ii, pow_ii, neg_i, sh_i, sh_s, sh_t, sh_l, sh_n, sh_b, sh_c, eq_nn, ne_nn, eq_ni, ne_ni, eq_in, ne_in, eq_nb, ne_nb, eq_bn, ne_bn, eq_ns, ne_ns, eq_sn, ne_sn, eq_ii, ne_ii, eq_bb, ne_bb, eq_ss, ne_ss, eq_is, ne_is, eq_si, ne_si, eq_bs, ne_bs, eq_sb, ne_sb, isn_n, non_n, isn_i, non_i, isn_b, non_b, isn_s, non_s, isn_t, non_t, isn_l, non_l, isn_c, non_c, isn_x, non_x, tru_n, tru_b, tru_i, tru_t, tru_l, notv_b, ix_t, ix_s, ix_l, ix_x, ix_c, ixl_c, sl_t, sl_s, sl_l, sl_c, rev_l, rev_c, len_t, len_l, len_x, len_s, len_c, list_t, list_l, list_x, list_c, tuple_t, tuple_l, tuple_c, int_i, int_b, abs_i, ord_s, isi_n, isi_b, isi_i, isi_s, isi_t, isi_l, isi_c, kindc, max_ii, min_ii, app_c, ext_c, set_c, sidx_ss, cm_ii, cm_ile, cm_igt, cm_ige, isl_l, isl_c, isl_s, iss_s, iss_l, b_ok, b_st, b_ex, o_ok, o_st, o_ex, c_ok, c_st, c_ex, fin_rt, fin_nx, fin_st, nx_nx, nx_rt, nx_bk, nx_ct, nx_ex, nx_st, e_seq, e_var, e_c, e_op, e_un, e_nil, e_cons, e_call, e_tup, e_lst, e_otup, e_olst, e_gd, e_asg, e_drop, e_ret, e_retN, e_next, e_brk, e_cont, e_ifs, e_setS, e_aug, e_augS, e_tru, e_bl, e_and, e_or, e_not, e_andV, e_orV, e_notV, e_if, e_chain, e_nop, e_part, e_sl, e_iSeq, e_iR1, e_iR2, rngOk_of, rngOk2_of, e_for, e_lc, e_yes, e_mt, e_mt2, e_join, e_put, e_fits, Tg.put, TgL.puts, hip, ha, hix, hsl, hin, hidx, hcod, hbad, hne, k1, hall, hcl, optP_n]
            · have k1 : 6 < (cs.length : Int) := by omega
              rw [if_neg (fun q => hlong q.1)]
              refine ⟨acc.map kp, ?_⟩
              simp only [List.map_cons] at hsl hin hidx
              simp [mkL_f, mkL_t, wipeP, mulOk, lw_l, lw_c, lv_l, lv_c, lv_x, sv_l, sv_c, sv_x, sv_t, lw_i, lw_s, lw_t, lv_s, lv_t, lv_i, lv_n, add_ii, add_ss, add_tt, add_ll, add_lc, add_cl, add_cc, sub_ii, plus_ii, mul_ii, mul_li, fdv_ii, mod_ii, pow_ii, neg_i, sh_i, sh_s, sh_t, sh_l, sh_n, sh_b, sh_c, eq_nn, ne_nn, eq_ni, ne_ni, eq_in, ne_in, eq_nb, ne_nb, eq_bn, ne_bn, eq_ns, ne_ns, eq_sn, ne_sn, eq_ii, ne_ii, eq_bb, ne_bb, eq_ss, ne_ss, eq_is, ne_is, eq_si, ne_si, eq_bs, ne_bs, eq_sb, ne_sb, isn_n, non_n, isn_i, non_i, isn_b, non_b, isn_s, non_s, isn_t, non_t, isn_l, non_l, isn_c, non_c, isn_x, non_x, tru_n, tru_b, tru_i, tru_t, tru_l, notv_b, ix_t, ix_s, ix_l, ix_x, ix_c, ixl_c, sl_t, sl_s, sl_l, sl_c, rev_l, rev_c, len_t, len_l, len_x, len_s, len_c, list_t, list_l, list_x, list_c, tuple_t, tuple_l, tuple_c, int_i, int_b, abs_i, ord_s, isi_n, isi_b, isi_i, isi_s, isi_t, isi_l, isi_c, kindc, max_ii, min_ii, app_c, ext_c, set_c, sidx_ss, cm_ii, cm_ile, cm_igt, cm_ige, isl_l, isl_c, isl_s, iss_s, iss_l, b_ok, b_st, b_ex, o_ok, o_st, o_ex, c_ok, c_st, c_ex, fin_rt, fin_nx, fin_st, nx_nx, nx_rt, nx_bk, nx_ct, nx_ex, nx_st, e_seq, e_var, e_c, e_op, e_un, e_nil, e_cons, e_call, e_tup, e_lst, e_otup, e_olst, e_gd, e_asg, e_drop, e_ret, e_retN, e_next, e_brk, e_cont, e_ifs, e_setS, e_aug, e_augS, e_tru, e_bl, e_and, e_or, e_not, e_andV, e_orV, e_notV, e_if, e_chain, e_nop, e_part, e_sl, e_iSeq, e_iR1, e_iR2, rngOk_of, rngOk2_of, e_for, e_lc, e_yes, e_mt, e_mt2, e_join, e_put, e_fits, Tg.put, TgL.puts, hip, ha, hix, hsl, hin, hidx, hcod, k1, optP_n]
          · have hn : txtAt 7 [] r = none := txtAt_no 7 [] r h0
            have hin : ∀ n, oIn (.int 0) (.tup (((2 : Int) :: r).map .int)) n = .ok (.bl false) n := fun n => by
              rw [in_ints]
              simp [h0]
            refine ⟨acc.map kp, ?_⟩
            rw [hn]
            simp only [List.map_cons] at hsl hin
            simp [mkL_f, mkL_t, wipeP, mulOk, lw_l, lw_c, lv_l, lv_c, lv_x, sv_l, sv_c, sv_x, sv_t, lw_i, lw_s, lw_t, lv_s, lv_t, lv_i, lv_n, add_ii, add_ss, add_tt, add_ll, add_lc, add_cl, add_cc, sub_ii, plus_ii, mul_ii, mul_li, fdv_ii, mod_ii, pow_ii, neg_i, sh_i, sh_s, sh_t, sh_l, sh_n, sh_b, sh_c, eq_nn, ne_nn, eq_ni, ne_ni, eq_in, ne_in, eq_nb, ne_nb, eq_bn, ne_bn, eq_ns, ne_ns, eq_sn, ne_sn, eq_ii, ne_ii, eq_bb, ne_bb, eq_ss, ne_ss, eq_is, ne_is, eq_si, ne_si, eq_bs, ne_bs, eq_sb, ne_sb, isn_n, non_n, isn_i, non_i, isn_b, non_b, isn_s, non_s, isn_t, non_t, isn_l, non_l, isn_c, non_c, isn_x, non_x, tru_n, tru_b, tru_i, tru_t, tru_l, notv_b, ix_t, ix_s, ix_l, ix_x, ix_c, ixl_c, sl_t, sl_s, sl_l, sl_c, rev_l, rev_c, len_t, len_l, len_x, len_s, len_c, list_t, list_l, list_x, list_c, tuple_t, tuple_l, tuple_c, int_i, int_b, abs_i, ord_s, isi_n, isi_b, isi_i, isi_s, isi_t, isi_l, isi_c, kindc, max_ii, min_ii, app_c, ext_c, set_c, sidx_ss, cm_ii, cm_ile, cm_igt, cm_ige, isl_l, isl_c, isl_s, iss_s, iss_l, b_ok, b_st, b_ex, o_ok, o_st, o_ex, c_ok, c_st, c_ex, fin_rt, fin_nx, fin_st, nx_nx, nx_rt, nx_bk, nx_ct, nx_ex, nx_st, e_seq, e_var, e_c, e_op, e_un, e_nil, e_cons, e_call, e_tup, e_lst, e_otup, e_olst, e_gd, e_asg, e_drop, e_ret, e_retN, e_next, e_brk, e_cont, e_ifs, e_setS, e_aug, e_augS, e_tru, e_bl, e_and, e_or, e_not, e_andV, e_orV, e_notV, e_if, e_chain, e_nop, e_part, e_sl, e_iSeq, e_iR1, e_iR2, rngOk_of, rngOk2_of, e_for, e_lc, e_yes, e_mt, e_mt2, e_join, e_put, e_fits, Tg.put, TgL.puts, hip, ha, hix, hsl, hin, optP_n]
        · rw [if_neg hc1, if_neg hc2]
          refine ⟨acc.map kp, ?_⟩
          simp [mkL_f, mkL_t, wipeP, mulOk, lw_l, lw_c, lv_l, lv_c, lv_x, sv_l, sv_c, sv_x, sv_t, lw_i, lw_s, lw_t, lv_s, lv_t, lv_i, lv_n, add_ii, add_ss, add_tt, add_ll, add_lc, add_cl, add_cc, sub_ii, plus_ii, mul_ii, mul_li, fdv_ii, mod_ii, pow_ii, neg_i, sh_i, sh_s, sh_t, sh_l, sh_n, sh_b, sh_c, eq_nn, ne_nn, eq_ni, ne_ni, eq_in, ne_in, eq_nb, ne_nb, eq_bn, ne_bn, eq_ns, ne_ns, eq_sn, ne_sn, eq_ii, ne_ii, eq_bb, ne_bb, eq_ss, ne_ss, eq_is, ne_is, eq_si, ne_si, eq_bs, ne_bs, eq_sb, ne_sb, isn_n, non_n, isn_i, non_i, isn_b, non_b, isn_s, non_s, isn_t, non_t, isn_l, non_l, isn_c, non_c, isn_x, non_x, tru_n, tru_b, tru_i, tru_t, tru_l, notv_b, ix_t, ix_s, ix_l, ix_x, ix_c, ixl_c, sl_t, sl_s, sl_l, sl_c, rev_l, rev_c, len_t, len_l, len_x, len_s, len_c, list_t, list_l, list_x, list_c, tuple_t, tuple_l, tuple_c, int_i, int_b, abs_i, ord_s, isi_n, isi_b, isi_i, isi_s, isi_t, isi_l, isi_c, kindc, max_ii, min_ii, app_c, ext_c, set_c, sidx_ss, cm_ii, cm_ile, cm_igt, cm_ige, isl_l, isl_c, isl_s, iss_s, iss_l, b_ok, b_st, b_ex, o_ok, o_st, o_ex, c_ok, c_st, c_ex, fin_rt, fin_nx, fin_st, nx_nx, nx_rt, nx_bk, nx_ct, nx_ex, nx_st, e_seq, e_var, e_c, e_op, e_un, e_nil, e_cons, e_call, e_tup, e_lst, e_otup, e_olst, e_gd, e_asg, e_drop, e_ret, e_retN, e_next, e_brk, e_cont, e_ifs, e_setS, e_aug, e_augS, e_tru, e_bl, e_and, e_or, e_not, e_andV, e_orV, e_notV, e_if, e_chain, e_nop, e_part, e_sl, e_iSeq, e_iR1, e_iR2, rngOk_of, rngOk2_of, e_for, e_lc, e_yes, e_mt, e_mt2, e_join, e_put, e_fits, Tg.put, TgL.puts, hip, ha, hix, hc1, hc2, optP_n]
theorem read_k (k : List Int) (m : M) (hk : k.length ≤ 80000) : f_read [ip k] m = .ok (optP rp (decode k)) m := by
  obtain ⟨xs, hx⟩ := read_loop k m hk (k.length + 1) k.length 0 0 [] none none none none none (by simp) (by simp) (by omega) (by simp; omega)
  simp only [List.drop_zero, List.map_nil] at hx
  rw [show ((0 : Nat) : Int) = 0 from rfl] at hx
  have hip : ∀ n, oLen [ip k] n = .ok (.int (k.length : Int)) n := fun n => by simp only [ip, len_t, List.length_map]
  have k1 : (k.length : Int) ≤ 100000 := by omega
  unfold f_read fnC fnF fb_read
  unfold decode
  simp [mkL_f, mkL_t, wipeP, mulOk, lw_l, lw_c, lv_l, lv_c, lv_x, sv_l, sv_c, sv_x, sv_t, lw_i, lw_s, lw_t, lv_s, lv_t, lv_i, lv_n, add_ii, add_ss, add_tt, add_ll, add_lc, add_cl, add_cc, sub_ii, plus_ii, mul_ii, mul_li, fdv_ii, mod_ii, pow_ii, neg_i, sh_i, sh_s, sh_t, sh_l, sh_n, sh_b, sh_c, eq_nn, ne_nn, eq_ni, ne_ni, eq_in, ne_in, eq_nb, ne_nb, eq_bn, ne_bn, eq_ns, ne_ns, eq_sn, ne_sn, eq_ii, ne_ii, eq_bb, ne_bb, eq_ss, ne_ss, eq_is, ne_is, eq_si, ne_si, eq_bs, ne_bs, eq_sb, ne_sb, isn_n, non_n, isn_i, non_i, isn_b, non_b, isn_s, non_s, isn_t, non_t, isn_l, non_l, isn_c, non_c, isn_x, non_x, tru_n, tru_b, tru_i, tru_t, tru_l, notv_b, ix_t, ix_s, ix_l, ix_x, ix_c, ixl_c, sl_t, sl_s, sl_l, sl_c, rev_l, rev_c, len_t, len_l, len_x, len_s, len_c, list_t, list_l, list_x, list_c, tuple_t, tuple_l, tuple_c, int_i, int_b, abs_i, ord_s, isi_n, isi_b, isi_i, isi_s, isi_t, isi_l, isi_c, kindc, max_ii, min_ii, app_c, ext_c, set_c, sidx_ss, cm_ii, cm_ile, cm_igt, cm_ige, isl_l, isl_c, isl_s, iss_s, iss_l, b_ok, b_st, b_ex, o_ok, o_st, o_ex, c_ok, c_st, c_ex, fin_rt, fin_nx, fin_st, nx_nx, nx_rt, nx_bk, nx_ct, nx_ex, nx_st, e_seq, e_var, e_c, e_op, e_un, e_nil, e_cons, e_call, e_tup, e_lst, e_otup, e_olst, e_gd, e_asg, e_drop, e_ret, e_retN, e_next, e_brk, e_cont, e_ifs, e_setS, e_aug, e_augS, e_tru, e_bl, e_and, e_or, e_not, e_andV, e_orV, e_notV, e_if, e_chain, e_nop, e_part, e_sl, e_iSeq, e_iR1, e_iR2, rngOk_of, rngOk2_of, e_for, e_lc, e_yes, e_mt, e_mt2, e_join, e_put, e_fits, Tg.put, TgL.puts, startP, hip, k1, rngP_eq, hx]
  cases dec (k.length + 1) k [] <;> simp [optP_s, optP_n, rp, cut_tree, kps_under, mkL_f, mkL_t, wipeP, mulOk, lw_l, lw_c, lv_l, lv_c, lv_x, sv_l, sv_c, sv_x, sv_t, lw_i, lw_s, lw_t, lv_s, lv_t, lv_i, lv_n, add_ii, add_ss, add_tt, add_ll, add_lc, add_cl, add_cc, sub_ii, plus_ii, mul_ii, mul_li, fdv_ii, mod_ii, pow_ii, neg_i, sh_i, sh_s, sh_t, sh_l, sh_n, sh_b, sh_c, eq_nn, ne_nn, eq_ni, ne_ni, eq_in, ne_in, eq_nb, ne_nb, eq_bn, ne_bn, eq_ns, ne_ns, eq_sn, ne_sn, eq_ii, ne_ii, eq_bb, ne_bb, eq_ss, ne_ss, eq_is, ne_is, eq_si, ne_si, eq_bs, ne_bs, eq_sb, ne_sb, isn_n, non_n, isn_i, non_i, isn_b, non_b, isn_s, non_s, isn_t, non_t, isn_l, non_l, isn_c, non_c, isn_x, non_x, tru_n, tru_b, tru_i, tru_t, tru_l, notv_b, ix_t, ix_s, ix_l, ix_x, ix_c, ixl_c, sl_t, sl_s, sl_l, sl_c, rev_l, rev_c, len_t, len_l, len_x, len_s, len_c, list_t, list_l, list_x, list_c, tuple_t, tuple_l, tuple_c, int_i, int_b, abs_i, ord_s, isi_n, isi_b, isi_i, isi_s, isi_t, isi_l, isi_c, kindc, max_ii, min_ii, app_c, ext_c, set_c, sidx_ss, cm_ii, cm_ile, cm_igt, cm_ige, isl_l, isl_c, isl_s, iss_s, iss_l, b_ok, b_st, b_ex, o_ok, o_st, o_ex, c_ok, c_st, c_ex, fin_rt, fin_nx, fin_st, nx_nx, nx_rt, nx_bk, nx_ct, nx_ex, nx_st, e_seq, e_var, e_c, e_op, e_un, e_nil, e_cons, e_call, e_tup, e_lst, e_otup, e_olst, e_gd, e_asg, e_drop, e_ret, e_retN, e_next, e_brk, e_cont, e_ifs, e_setS, e_aug, e_augS, e_tru, e_bl, e_and, e_or, e_not, e_andV, e_orV, e_notV, e_if, e_chain, e_nop, e_part, e_sl, e_iSeq, e_iR1, e_iR2, rngOk_of, rngOk2_of, e_for, e_lc, e_yes, e_mt, e_mt2, e_join, e_put, e_fits, Tg.put, TgL.puts]

end
/-! K7 -/
section
open PySem PySem.Spec PyProof.Rows
/-! ### loops, whatever the store -/
theorem forG_inv {g : Tg} {body : FS} {Inv : Env → M → Prop} : ∀ {xs : List P} {ρ : Env} {m : M}, (∀ x ∈ xs, ∀ ρ m, Inv ρ m → ∃ ρ1, g.put x ρ = some ρ1 ∧ ∃ ρ2 m2, body ρ1 m = .nx ρ2 m2 ∧ Inv ρ2 m2) → Inv ρ m → ∃ ρ' m', forG g body [] xs ρ m = .nx ρ' m' ∧ Inv ρ' m'
  | [], ρ, m, _, h => ⟨ρ, m, forG_nil, h⟩
  | x :: xs, ρ, m, hs, h => by
    obtain ⟨ρ1, e1, ρ2, m2, e2, h2⟩ := hs x List.mem_cons_self ρ m h
    obtain ⟨ρ', m', e3, h3⟩ := forG_inv (xs := xs) (fun y hy => hs y (List.mem_cons_of_mem _ hy)) h2
    refine ⟨ρ', m', ?_, h3⟩
    rw [forG_cons, e1]
    simp only [e2, e3]
theorem lcG_mapC {α : Type} {i : Nat} {te : FE} {ρ : Env} {m : M} {chk : List (Nat × List P)} {f : α → P} {h : α → P} (hc : chkOk m chk) : ∀ {xs : List α}, (∀ x ∈ xs, te (ρ.set i (some (f x))) m = .ok (h x) m) → lcG (.name i) fYes te chk ρ (xs.map f) m = .ok (xs.map h) m
  | [], _ => by rw [List.map_nil, lcG, if_pos hc]; rfl
  | x :: xs, hh => by
    rw [List.map_cons, lcG, if_pos hc]
    simp only [Tg.put, fYes, Res.calm, Res.bind, if_true]
    rw [hh x List.mem_cons_self]
    simp only [Res.calm, Res.bind]
    rw [lcG_mapC hc fun y hy => hh y (List.mem_cons_of_mem _ hy)]
    rfl
/-- each element with its own draws -/
theorem lcG_ex {i : Nat} {te : FE} {ρ : Env} {Inv : M → Prop} {Py : P → Prop} : ∀ {xs : List P} {m : M}, (∀ x ∈ xs, ∀ m, Inv m → ∃ y m', te (ρ.set i (some x)) m = .ok y m' ∧ Py y ∧ Inv m') → Inv m → ∃ ys m', lcG (.name i) fYes te [] ρ xs m = .ok ys m' ∧ ys.length = xs.length ∧ (∀ y ∈ ys, Py y) ∧ Inv m'
  | [], m, _, h => ⟨[], m, lcG_nil, rfl, fun _ h => (List.not_mem_nil h).elim, h⟩
  | x :: xs, m, hs, h => by
    obtain ⟨y, m1, e1, p1, h1⟩ := hs x List.mem_cons_self m h
    obtain ⟨ys, m2, e2, l2, p2, h2⟩ := lcG_ex (xs := xs) (fun z hz => hs z (List.mem_cons_of_mem _ hz)) h1
    refine ⟨y :: ys, m2, ?_, by rw [List.length_cons, List.length_cons, l2], fun z hz => (List.mem_cons.mp hz).elim (fun q => by rw [q]; exact p1) (p2 z), h2⟩
    rw [lcG_cons]
    simp only [Tg.put, fYes, Res.calm, Res.bind, if_true, e1, e2]
theorem all_map {α : Type} {Q : α → Prop} {f : α → P} : ∀ {ys : List P}, (∀ y ∈ ys, ∃ v, Q v ∧ y = f v) → ∃ vs : List α, ys = vs.map f ∧ ∀ v ∈ vs, Q v
  | [], _ => ⟨[], rfl, fun _ h => (List.not_mem_nil h).elim⟩
  | y :: ys, h => by
    obtain ⟨v, q, e⟩ := h y List.mem_cons_self
    obtain ⟨vs, e2, q2⟩ := all_map (ys := ys) fun z hz => h z (List.mem_cons_of_mem _ hz)
    exact ⟨v :: vs, by rw [e, e2]; rfl, fun z hz => (List.mem_cons.mp hz).elim (fun k => by rw [k]; exact q) (q2 z)⟩
/-! ### ranges -/
def sp (s : List Int × List Int) : P := .tup [ip s.1, ip s.2]
def ShortK (k : List Int) : Prop := k.length ≤ 1000
theorem add_ip (a b : List Int) (h : a.length + b.length ≤ 100000) (m : M) : oAdd false (ip a) (.tup (b.map .int)) m = .ok (ip (a ++ b)) m := by
  unfold ip
  rw [add_tt, List.map_append]
  rw [if_pos]
  exact decide_eq_true (by simpa using h)
theorem add_sps (S T : List (List Int × List Int)) (h : S.length + T.length ≤ 100000) (m : M) : oAdd false (.lst (S.map sp)) (.lst (T.map sp)) m = .ok (.lst ((S ++ T).map sp)) m := by
  rw [add_ll, List.map_append, if_pos]
  · rfl
  · exact decide_eq_true (by simpa using h)
theorem ranges_1 (k0 : List Int) (kk ss : P) (m : M) (hk0 : ∀ n, oIx kk (.int 0) n = .ok (ip k0) n) : ∀ (ws : List (List Int)) (S : List (List Int × List Int)) (o3 o4 o5 o6 o7 : Option P), (∀ w ∈ ws, ShortK w) → S.length + 3 * ws.length ≤ 1000 →
    ∃ (S' : List (List Int × List Int)) (p3 : Option P), S'.length = S.length + 3 * ws.length ∧ forG (.name 3) (fAsg (.name 2) (fOp (oAdd false) (fVar 2) (fLst false (fCons (fTup (fCons (fVar 3) (fCons (fOp (oAdd false) (fVar 3) (fTup (fCons (fC (.int 3)) fNil))) fNil))) (fCons (fTup (fCons (fVar 3) (fCons (fOp (oAdd false) (fVar 3) (fTup (fCons (fC (.int 0)) fNil))) fNil))) (fCons (fTup (fCons (fVar 3) (fCons (fOp oIx (fVar 0) (fC (.int 0))) fNil))) fNil)))))) [] (ws.map ip) [some kk, some ss, some (.lst (S.map sp)), o3, o4, o5, o6, o7] m = .nx [some kk, some ss, some (.lst (S'.map sp)), p3, o4, o5, o6, o7] m
  | [], S, o3, o4, o5, o6, o7, _, _ => ⟨S, o3, rfl, by simp [forG_nil]⟩
  | w :: ws, S, o3, o4, o5, o6, o7, hw, hl => by
    have h1 : w.length ≤ 1000 := hw w List.mem_cons_self
    simp only [List.length_cons] at hl
    obtain ⟨S', p3, e, h⟩ := ranges_1 k0 kk ss m hk0 ws (S ++ [(w, w ++ [3]), (w, w ++ [0]), (w, k0)]) (some (ip w)) o4 o5 o6 o7 (fun v hv => hw v (List.mem_cons_of_mem _ hv)) (by simp only [List.length_append, List.length_cons, List.length_nil]; omega)
    refine ⟨S', p3, by rw [e]; simp only [List.length_append, List.length_cons, List.length_nil]; omega, ?_⟩
    have a3 : ∀ n, oAdd false (ip w) (.tup [.int 3]) n = .ok (ip (w ++ [3])) n := fun n => add_ip w [3] (by simp; omega) n
    have a0 : ∀ n, oAdd false (ip w) (.tup [.int 0]) n = .ok (ip (w ++ [0])) n := fun n => add_ip w [0] (by simp; omega) n
    have as : ∀ n, oAdd false (.lst (S.map sp)) (.lst [.tup [ip w, ip (w ++ [3])], .tup [ip w, ip (w ++ [0])], .tup [ip w, ip k0]]) n = .ok (.lst ((S ++ [(w, w ++ [3]), (w, w ++ [0]), (w, k0)]).map sp)) n := fun n => add_sps S [(w, w ++ [3]), (w, w ++ [0]), (w, k0)] (by simp; omega) n
    rw [List.map_cons, forG_cons]
    simp [mkL_f, mkL_t, wipeP, mulOk, lw_l, lw_c, lv_l, lv_c, lv_x, sv_l, sv_c, sv_x, sv_t, lw_i, lw_s, lw_t, lv_s, lv_t, lv_i, lv_n, add_ii, add_ss, add_tt, add_ll, add_lc, add_cl, add_cc, sub_ii, plus_ii, mul_ii, mul_li, fdv_ii, mod_ii, pow_ii, neg_i, sh_i, sh_s, sh_t, sh_l, sh_n, sh_b, sh_c, eq_nn, ne_nn, eq_ni, ne_ni, eq_in, ne_in, eq_nb, ne_nb, eq_bn, ne_bn, eq_ns, ne_ns, eq_sn, ne_sn, eq_ii, ne_ii, eq_bb, ne_bb, eq_ss, ne_ss, eq_is, ne_is, eq_si, ne_si, eq_bs, ne_bs, eq_sb, ne_sb, isn_n, non_n, isn_i, non_i, isn_b, non_b, isn_s, non_s, isn_t, non_t, isn_l, non_l, isn_c, non_c, isn_x, non_x, tru_n, tru_b, tru_i, tru_t, tru_l, notv_b, ix_t, ix_s, ix_l, ix_x, ix_c, ixl_c, sl_t, sl_s, sl_l, sl_c, rev_l, rev_c, len_t, len_l, len_x, len_s, len_c, list_t, list_l, list_x, list_c, tuple_t, tuple_l, tuple_c, int_i, int_b, abs_i, ord_s, isi_n, isi_b, isi_i, isi_s, isi_t, isi_l, isi_c, kindc, max_ii, min_ii, app_c, ext_c, set_c, sidx_ss, cm_ii, cm_ile, cm_igt, cm_ige, isl_l, isl_c, isl_s, iss_s, iss_l, b_ok, b_st, b_ex, o_ok, o_st, o_ex, c_ok, c_st, c_ex, fin_rt, fin_nx, fin_st, nx_nx, nx_rt, nx_bk, nx_ct, nx_ex, nx_st, e_seq, e_var, e_c, e_op, e_un, e_nil, e_cons, e_call, e_tup, e_lst, e_otup, e_olst, e_gd, e_asg, e_drop, e_ret, e_retN, e_next, e_brk, e_cont, e_ifs, e_setS, e_aug, e_augS, e_tru, e_bl, e_and, e_or, e_not, e_andV, e_orV, e_notV, e_if, e_chain, e_nop, e_part, e_sl, e_iSeq, e_iR1, e_iR2, rngOk_of, rngOk2_of, e_for, e_lc, e_yes, e_mt, e_mt2, e_join, e_put, e_fits, Tg.put, TgL.puts, a3, a0, hk0, as]
    simpa using h
theorem ranges_2 (kk ss : P) (m : M) : ∀ (ws : List (List Int)) (S : List (List Int × List Int)) (o3 o4 o5 o6 o7 : Option P), (∀ w ∈ ws, ShortK w) → S.length + 3 * ws.length ≤ 1000 →
    ∃ (S' : List (List Int × List Int)) (p3 : Option P), S'.length = S.length + 3 * ws.length ∧ forG (.name 3) (fAsg (.name 2) (fOp (oAdd false) (fVar 2) (fLst false (fCons (fTup (fCons (fVar 3) (fCons (fTup (fCons (fC (.int 3)) fNil)) fNil))) (fCons (fTup (fCons (fTup fNil) (fCons (fVar 3) fNil))) (fCons (fTup (fCons (fVar 3) (fCons (fOp (oAdd false) (fVar 3) (fTup (fCons (fC (.int 0)) fNil))) fNil))) fNil)))))) [] (ws.map ip) [some kk, some ss, some (.lst (S.map sp)), o3, o4, o5, o6, o7] m = .nx [some kk, some ss, some (.lst (S'.map sp)), p3, o4, o5, o6, o7] m
  | [], S, o3, o4, o5, o6, o7, _, _ => ⟨S, o3, rfl, by simp [forG_nil]⟩
  | w :: ws, S, o3, o4, o5, o6, o7, hw, hl => by
    have h1 : w.length ≤ 1000 := hw w List.mem_cons_self
    simp only [List.length_cons] at hl
    obtain ⟨S', p3, e, h⟩ := ranges_2 kk ss m ws (S ++ [(w, [3]), ([], w), (w, w ++ [0])]) (some (ip w)) o4 o5 o6 o7 (fun v hv => hw v (List.mem_cons_of_mem _ hv)) (by simp only [List.length_append, List.length_cons, List.length_nil]; omega)
    refine ⟨S', p3, by rw [e]; simp only [List.length_append, List.length_cons, List.length_nil]; omega, ?_⟩
    have a0 : ∀ n, oAdd false (ip w) (.tup [.int 0]) n = .ok (ip (w ++ [0])) n := fun n => add_ip w [0] (by simp; omega) n
    have as : ∀ n, oAdd false (.lst (S.map sp)) (.lst [.tup [ip w, .tup [.int 3]], .tup [.tup [], ip w], .tup [ip w, ip (w ++ [0])]]) n = .ok (.lst ((S ++ [(w, [3]), ([], w), (w, w ++ [0])]).map sp)) n := fun n => add_sps S [(w, [3]), ([], w), (w, w ++ [0])] (by simp; omega) n
    rw [List.map_cons, forG_cons]
    simp [mkL_f, mkL_t, wipeP, mulOk, lw_l, lw_c, lv_l, lv_c, lv_x, sv_l, sv_c, sv_x, sv_t, lw_i, lw_s, lw_t, lv_s, lv_t, lv_i, lv_n, add_ii, add_ss, add_tt, add_ll, add_lc, add_cl, add_cc, sub_ii, plus_ii, mul_ii, mul_li, fdv_ii, mod_ii, pow_ii, neg_i, sh_i, sh_s, sh_t, sh_l, sh_n, sh_b, sh_c, eq_nn, ne_nn, eq_ni, ne_ni, eq_in, ne_in, eq_nb, ne_nb, eq_bn, ne_bn, eq_ns, ne_ns, eq_sn, ne_sn, eq_ii, ne_ii, eq_bb, ne_bb, eq_ss, ne_ss, eq_is, ne_is, eq_si, ne_si, eq_bs, ne_bs, eq_sb, ne_sb, isn_n, non_n, isn_i, non_i, isn_b, non_b, isn_s, non_s, isn_t, non_t, isn_l, non_l, isn_c, non_c, isn_x, non_x, tru_n, tru_b, tru_i, tru_t, tru_l, notv_b, ix_t, ix_s, ix_l, ix_x, ix_c, ixl_c, sl_t, sl_s, sl_l, sl_c, rev_l, rev_c, len_t, len_l, len_x, len_s, len_c, list_t, list_l, list_x, list_c, tuple_t, tuple_l, tuple_c, int_i, int_b, abs_i, ord_s, isi_n, isi_b, isi_i, isi_s, isi_t, isi_l, isi_c, kindc, max_ii, min_ii, app_c, ext_c, set_c, sidx_ss, cm_ii, cm_ile, cm_igt, cm_ige, isl_l, isl_c, isl_s, iss_s, iss_l, b_ok, b_st, b_ex, o_ok, o_st, o_ex, c_ok, c_st, c_ex, fin_rt, fin_nx, fin_st, nx_nx, nx_rt, nx_bk, nx_ct, nx_ex, nx_st, e_seq, e_var, e_c, e_op, e_un, e_nil, e_cons, e_call, e_tup, e_lst, e_otup, e_olst, e_gd, e_asg, e_drop, e_ret, e_retN, e_next, e_brk, e_cont, e_ifs, e_setS, e_aug, e_augS, e_tru, e_bl, e_and, e_or, e_not, e_andV, e_orV, e_notV, e_if, e_chain, e_nop, e_part, e_sl, e_iSeq, e_iR1, e_iR2, rngOk_of, rngOk2_of, e_for, e_lc, e_yes, e_mt, e_mt2, e_join, e_put, e_fits, Tg.put, TgL.puts, a0, as]
    simpa using h
/-- the slots that stay -/
def Rng (kk ss sps : P) (ρ : Env) (n m : M) : Prop := n = m ∧ ∃ o3 o4 o5 o6 o7, ρ = [some kk, some ss, some sps, o3, o4, o5, o6, o7]
def Rng4 (kk ss sps f : P) (ρ : Env) (n m : M) : Prop := n = m ∧ ∃ o3 o5 o6 o7, ρ = [some kk, some ss, some sps, o3, some f, o5, o6, o7]
theorem ranges_4 (kk ss sps : P) (m : M) (f : List Int × List Int) (S : List (List Int × List Int)) {ρ : Env} {n : M} (h : Rng4 kk ss sps (sp f) ρ n m) : ∃ ρ' m', forG (.name 5) (fSeq (fAsg (.name 3) (fCall oMax2 (fCons (fOp oIx (fVar 4) (fC (.int 0))) (fCons (fOp oIx (fVar 5) (fC (.int 0))) fNil))))
  (fSeq (fAsg (.name 6) (fCall oMin2 (fCons (fOp oIx (fVar 4) (fC (.int 1))) (fCons (fOp oIx (fVar 5) (fC (.int 1))) fNil))))
  (fIfS (fNot (fTru (fCall (gd 2 (f_same 4)) (fCons (fCall (gd 2 f_meet) (fCons (fVar 4) (fCons (fVar 5) fNil))) (fCons (fOp (oCm .lt) (fVar 3) (fVar 6)) fNil))))) (fRet (fC (.bl false))) fNext))) [] (S.map sp) ρ n = .nx ρ' m' ∧ Rng4 kk ss sps (sp f) ρ' m' m := by
  refine forG_inv (Inv := fun ρ n => Rng4 kk ss sps (sp f) ρ n m) (fun x hx ρ n hr => ?_) h
  obtain ⟨s, _, rfl⟩ := List.mem_map.mp hx
  obtain ⟨rfl, o3, o5, o6, o7, rfl⟩ := hr
  refine ⟨_, rfl, _, _, ?_, rfl, some (.tup ((if lexI f.1 s.1 = true then s.1 else f.1).map .int)), some (sp s), some (.tup ((if lexI s.2 f.2 = true then s.2 else f.2).map .int)), o7, rfl⟩
  have hm := fun n => meet_k f.1 f.2 s.1 s.2 n
  have h1 := fun n => max_ints f.1 s.1 n
  have h2 := fun n => min_ints f.2 s.2 n
  have h3 := fun b n => same_bl 3 n b
  simp only [sp, ip] at *
  simp [mkL_f, mkL_t, wipeP, mulOk, lw_l, lw_c, lv_l, lv_c, lv_x, sv_l, sv_c, sv_x, sv_t, lw_i, lw_s, lw_t, lv_s, lv_t, lv_i, lv_n, add_ii, add_ss, add_tt, add_ll, add_lc, add_cl, add_cc, sub_ii, plus_ii, mul_ii, mul_li, fdv_ii, mod_ii, pow_ii, neg_i, sh_i, sh_s, sh_t, sh_l, sh_n, sh_b, sh_c, eq_nn, ne_nn, eq_ni, ne_ni, eq_in, ne_in, eq_nb, ne_nb, eq_bn, ne_bn, eq_ns, ne_ns, eq_sn, ne_sn, eq_ii, ne_ii, eq_bb, ne_bb, eq_ss, ne_ss, eq_is, ne_is, eq_si, ne_si, eq_bs, ne_bs, eq_sb, ne_sb, isn_n, non_n, isn_i, non_i, isn_b, non_b, isn_s, non_s, isn_t, non_t, isn_l, non_l, isn_c, non_c, isn_x, non_x, tru_n, tru_b, tru_i, tru_t, tru_l, notv_b, ix_t, ix_s, ix_l, ix_x, ix_c, ixl_c, sl_t, sl_s, sl_l, sl_c, rev_l, rev_c, len_t, len_l, len_x, len_s, len_c, list_t, list_l, list_x, list_c, tuple_t, tuple_l, tuple_c, int_i, int_b, abs_i, ord_s, isi_n, isi_b, isi_i, isi_s, isi_t, isi_l, isi_c, kindc, max_ii, min_ii, app_c, ext_c, set_c, sidx_ss, cm_ii, cm_ile, cm_igt, cm_ige, isl_l, isl_c, isl_s, iss_s, iss_l, b_ok, b_st, b_ex, o_ok, o_st, o_ex, c_ok, c_st, c_ex, fin_rt, fin_nx, fin_st, nx_nx, nx_rt, nx_bk, nx_ct, nx_ex, nx_st, e_seq, e_var, e_c, e_op, e_un, e_nil, e_cons, e_call, e_tup, e_lst, e_otup, e_olst, e_gd, e_asg, e_drop, e_ret, e_retN, e_next, e_brk, e_cont, e_ifs, e_setS, e_aug, e_augS, e_tru, e_bl, e_and, e_or, e_not, e_andV, e_orV, e_notV, e_if, e_chain, e_nop, e_part, e_sl, e_iSeq, e_iR1, e_iR2, rngOk_of, rngOk2_of, e_for, e_lc, e_yes, e_mt, e_mt2, e_join, e_put, e_fits, Tg.put, TgL.puts, atI_0, atI_1, hm, h1, h2, cm_ints, cmI, h3]
theorem ranges_5 (kk ss sps : P) (m : M) (f : List Int × List Int) (S : List (List Int)) {ρ : Env} {n : M} (h : Rng4 kk ss sps (sp f) ρ n m) : ∃ ρ' m', forG (.name 7) (fIfS (fNot (fTru (fCall (gd 2 (f_same 4)) (fCons (fCall (gd 2 f_is_in) (fCons (fVar 7) (fCons (fVar 4) fNil))) (fCons (fAndV (fOp (oCm .le) (fOp oIx (fVar 4) (fC (.int 0))) (fVar 7)) (fOp (oCm .lt) (fVar 7) (fOp oIx (fVar 4) (fC (.int 1))))) fNil))))) (fRet (fC (.bl false))) fNext) [] (S.map ip) ρ n = .nx ρ' m' ∧ Rng4 kk ss sps (sp f) ρ' m' m := by
  refine forG_inv (Inv := fun ρ n => Rng4 kk ss sps (sp f) ρ n m) (fun x hx ρ n hr => ?_) h
  obtain ⟨s, _, rfl⟩ := List.mem_map.mp hx
  obtain ⟨rfl, o3, o5, o6, o7, rfl⟩ := hr
  refine ⟨_, rfl, _, _, ?_, rfl, o3, o5, o6, some (ip s), rfl⟩
  have hm := fun n => is_in_k s f.1 f.2 n
  have h3 := fun b n => same_bl 3 n b
  simp only [sp, ip] at *
  cases hl : lexI s f.1 <;> simp [mkL_f, mkL_t, wipeP, mulOk, lw_l, lw_c, lv_l, lv_c, lv_x, sv_l, sv_c, sv_x, sv_t, lw_i, lw_s, lw_t, lv_s, lv_t, lv_i, lv_n, add_ii, add_ss, add_tt, add_ll, add_lc, add_cl, add_cc, sub_ii, plus_ii, mul_ii, mul_li, fdv_ii, mod_ii, pow_ii, neg_i, sh_i, sh_s, sh_t, sh_l, sh_n, sh_b, sh_c, eq_nn, ne_nn, eq_ni, ne_ni, eq_in, ne_in, eq_nb, ne_nb, eq_bn, ne_bn, eq_ns, ne_ns, eq_sn, ne_sn, eq_ii, ne_ii, eq_bb, ne_bb, eq_ss, ne_ss, eq_is, ne_is, eq_si, ne_si, eq_bs, ne_bs, eq_sb, ne_sb, isn_n, non_n, isn_i, non_i, isn_b, non_b, isn_s, non_s, isn_t, non_t, isn_l, non_l, isn_c, non_c, isn_x, non_x, tru_n, tru_b, tru_i, tru_t, tru_l, notv_b, ix_t, ix_s, ix_l, ix_x, ix_c, ixl_c, sl_t, sl_s, sl_l, sl_c, rev_l, rev_c, len_t, len_l, len_x, len_s, len_c, list_t, list_l, list_x, list_c, tuple_t, tuple_l, tuple_c, int_i, int_b, abs_i, ord_s, isi_n, isi_b, isi_i, isi_s, isi_t, isi_l, isi_c, kindc, max_ii, min_ii, app_c, ext_c, set_c, sidx_ss, cm_ii, cm_ile, cm_igt, cm_ige, isl_l, isl_c, isl_s, iss_s, iss_l, b_ok, b_st, b_ex, o_ok, o_st, o_ex, c_ok, c_st, c_ex, fin_rt, fin_nx, fin_st, nx_nx, nx_rt, nx_bk, nx_ct, nx_ex, nx_st, e_seq, e_var, e_c, e_op, e_un, e_nil, e_cons, e_call, e_tup, e_lst, e_otup, e_olst, e_gd, e_asg, e_drop, e_ret, e_retN, e_next, e_brk, e_cont, e_ifs, e_setS, e_aug, e_augS, e_tru, e_bl, e_and, e_or, e_not, e_andV, e_orV, e_notV, e_if, e_chain, e_nop, e_part, e_sl, e_iSeq, e_iR1, e_iR2, rngOk_of, rngOk2_of, e_for, e_lc, e_yes, e_mt, e_mt2, e_join, e_put, e_fits, Tg.put, TgL.puts, atI_0, atI_1, hm, cm_ints, cmI, h3, hl]
theorem ranges_k (ks ss : List (List Int)) (m : M) (hk : ∀ w ∈ ks, ShortK w) (hs : ∀ w ∈ ss, ShortK w) (hne : ks ≠ []) (hl : ks.length + ss.length ≤ 100) : f_ranges [.lst (ks.map ip), .lst (ss.map ip)] m = .ok (.bl true) m := by
  obtain ⟨k0, kr, rfl⟩ := List.exists_cons_of_ne_nil hne
  have hk0 : ∀ n, oIx (.lst ((k0 :: kr).map ip)) (.int 0) n = .ok (ip k0) n := fun n => by simp [ix_l, atI_0]
  have hs3 : ∀ w ∈ ss.take 3, ShortK w := fun w hw => hs w (List.mem_of_mem_take hw)
  have hl3 : (ss.take 3).length ≤ 3 := by rw [List.length_take]; omega
  simp only [List.length_cons] at hl
  obtain ⟨S1, p3, e1, h1⟩ := ranges_1 k0 (.lst ((k0 :: kr).map ip)) (.lst (ss.map ip)) m hk0 (k0 :: kr) [([], [3]), (k0, k0)] none none none none none hk (by simp only [List.length_cons, List.length_nil]; omega)
  obtain ⟨S2, q3, e2, h2⟩ := ranges_2 (.lst ((k0 :: kr).map ip)) (.lst (ss.map ip)) m (ss.take 3) S1 p3 none none none none hs3 (by rw [e1]; simp only [List.length_cons, List.length_nil]; omega)
  have hfit : S2.length ≤ 100000 := by rw [e2, e1]; simp only [List.length_cons, List.length_nil]; omega
  have hcut : cutL (ss.map ip) none (some 3) = (ss.take 3).map ip := by
    have := cut_to (ss.map ip) 3
    rw [show ((3 : Nat) : Int) = 3 from rfl, ← List.map_take] at this
    exact this
  have hadd : ∀ n, oAdd false (.lst ((k0 :: kr).map ip)) (.lst (ss.map ip)) n = .ok (.lst (((k0 :: kr) ++ ss).map ip)) n := fun n => by
    rw [add_ll, List.map_append, if_pos]
    · rfl
    · exact decide_eq_true (by simp; omega)
  -- the last loop
  have h3 : ∀ ρ n, Rng (.lst ((k0 :: kr).map ip)) (.lst (ss.map ip)) (.lst (S2.map sp)) ρ n m → ∃ ρ' m', forG (.name 4) (fSeq (fFor (iSeq (fVar 2)) (.name 5) (fSeq (fAsg (.name 3) (fCall oMax2 (fCons (fOp oIx (fVar 4) (fC (.int 0))) (fCons (fOp oIx (fVar 5) (fC (.int 0))) fNil))))
  (fSeq (fAsg (.name 6) (fCall oMin2 (fCons (fOp oIx (fVar 4) (fC (.int 1))) (fCons (fOp oIx (fVar 5) (fC (.int 1))) fNil))))
  (fIfS (fNot (fTru (fCall (gd 2 (f_same 4)) (fCons (fCall (gd 2 f_meet) (fCons (fVar 4) (fCons (fVar 5) fNil))) (fCons (fOp (oCm .lt) (fVar 3) (fVar 6)) fNil))))) (fRet (fC (.bl false))) fNext))))
  (fFor (iSeq (fOp (oAdd false) (fVar 0) (fVar 1))) (.name 7) (fIfS (fNot (fTru (fCall (gd 2 (f_same 4)) (fCons (fCall (gd 2 f_is_in) (fCons (fVar 7) (fCons (fVar 4) fNil))) (fCons (fAndV (fOp (oCm .le) (fOp oIx (fVar 4) (fC (.int 0))) (fVar 7)) (fOp (oCm .lt) (fVar 7) (fOp oIx (fVar 4) (fC (.int 1))))) fNil))))) (fRet (fC (.bl false))) fNext))) [] (S2.map sp) ρ n = .nx ρ' m' ∧ Rng (.lst ((k0 :: kr).map ip)) (.lst (ss.map ip)) (.lst (S2.map sp)) ρ' m' m := fun ρ n h => by
    refine forG_inv (Inv := fun ρ n => Rng _ _ _ ρ n m) (fun x hx ρ n hr => ?_) h
    obtain ⟨f, _, rfl⟩ := List.mem_map.mp hx
    obtain ⟨rfl, o3, o4, o5, o6, o7, rfl⟩ := hr
    refine ⟨_, rfl, ?_⟩
    obtain ⟨ρ1, m1, e1, r1⟩ := ranges_4 (.lst ((k0 :: kr).map ip)) (.lst (ss.map ip)) (.lst (S2.map sp)) n f S2 (ρ := [some (.lst ((k0 :: kr).map ip)), some (.lst (ss.map ip)), some (.lst (S2.map sp)), o3, some (sp f), o5, o6, o7]) (n := n) ⟨rfl, o3, o5, o6, o7, rfl⟩
    obtain ⟨ρ2, m2, e2, r2⟩ := ranges_5 (.lst ((k0 :: kr).map ip)) (.lst (ss.map ip)) (.lst (S2.map sp)) n f ((k0 :: kr) ++ ss) r1
    obtain ⟨rfl, a3, a5, a6, a7, rfl⟩ := r1
    obtain ⟨rfl, b3, b5, b6, b7, rfl⟩ := r2
    refine ⟨_, _, ?_, rfl, b3, some (sp f), b5, b6, b7, rfl⟩
    simp only [List.set_cons_succ, List.set_cons_zero]
    rw [e_seq, e_for, e_iSeq, e_var]
    simp only [List.getElem?_cons_succ, List.getElem?_cons_zero, b_ok, o_ok, e1, nx_nx]
    rw [e_for, e_iSeq, e_op]
    simp only [e_var, List.getElem?_cons_succ, List.getElem?_cons_zero, b_ok, o_ok, hadd, e2]
  obtain ⟨ρ', m', e3, rfl, a3, a4, a5, a6, a7, rfl⟩ := h3 [some (.lst ((k0 :: kr).map ip)), some (.lst (ss.map ip)), some (.lst (S2.map sp)), q3, none, none, none, none] m ⟨rfl, q3, none, none, none, none, rfl⟩
  unfold f_ranges fnC fnF fb_ranges
  have hsp0 : ∀ n, fLst false (fCons (fTup (fCons (fTup fNil) (fCons (fTup (fCons (fC (.int 3)) fNil)) fNil))) (fCons (fTup (fCons (fOp oIx (fVar 0) (fC (.int 0))) (fCons (fOp oIx (fVar 0) (fC (.int 0))) fNil))) fNil)) [some (.lst ((k0 :: kr).map ip)), some (.lst (ss.map ip)), none, none, none, none, none, none] n = .ok (.lst (([([], [3]), (k0, k0)] : List (List Int × List Int)).map sp)) n := fun n => by
    simp [mkL_f, mkL_t, wipeP, mulOk, lw_l, lw_c, lv_l, lv_c, lv_x, sv_l, sv_c, sv_x, sv_t, lw_i, lw_s, lw_t, lv_s, lv_t, lv_i, lv_n, add_ii, add_ss, add_tt, add_ll, add_lc, add_cl, add_cc, sub_ii, plus_ii, mul_ii, mul_li, fdv_ii, mod_ii, pow_ii, neg_i, sh_i, sh_s, sh_t, sh_l, sh_n, sh_b, sh_c, eq_nn, ne_nn, eq_ni, ne_ni, eq_in, ne_in, eq_nb, ne_nb, eq_bn, ne_bn, eq_ns, ne_ns, eq_sn, ne_sn, eq_ii, ne_ii, eq_bb, ne_bb, eq_ss, ne_ss, eq_is, ne_is, eq_si, ne_si, eq_bs, ne_bs, eq_sb, ne_sb, isn_n, non_n, isn_i, non_i, isn_b, non_b, isn_s, non_s, isn_t, non_t, isn_l, non_l, isn_c, non_c, isn_x, non_x, tru_n, tru_b, tru_i, tru_t, tru_l, notv_b, ix_t, ix_s, ix_l, ix_x, ix_c, ixl_c, sl_t, sl_s, sl_l, sl_c, rev_l, rev_c, len_t, len_l, len_x, len_s, len_c, list_t, list_l, list_x, list_c, tuple_t, tuple_l, tuple_c, int_i, int_b, abs_i, ord_s, isi_n, isi_b, isi_i, isi_s, isi_t, isi_l, isi_c, kindc, max_ii, min_ii, app_c, ext_c, set_c, sidx_ss, cm_ii, cm_ile, cm_igt, cm_ige, isl_l, isl_c, isl_s, iss_s, iss_l, b_ok, b_st, b_ex, o_ok, o_st, o_ex, c_ok, c_st, c_ex, fin_rt, fin_nx, fin_st, nx_nx, nx_rt, nx_bk, nx_ct, nx_ex, nx_st, e_seq, e_var, e_c, e_op, e_un, e_nil, e_cons, e_call, e_tup, e_lst, e_otup, e_olst, e_gd, e_asg, e_drop, e_ret, e_retN, e_next, e_brk, e_cont, e_ifs, e_setS, e_aug, e_augS, e_tru, e_bl, e_and, e_or, e_not, e_andV, e_orV, e_notV, e_if, e_chain, e_nop, e_part, e_sl, e_iSeq, e_iR1, e_iR2, rngOk_of, rngOk2_of, e_for, e_lc, e_yes, e_mt, e_mt2, e_join, e_put, e_fits, Tg.put, TgL.puts, atI_0, sp, ip]
  show (finish true m' (fSeq _ _ [some (.lst ((k0 :: kr).map ip)), some (.lst (ss.map ip)), none, none, none, none, none, none] m')).calm = _
  rw [e_seq, e_asg, hsp0]
  simp only [o_ok, e_put, List.set_cons_succ, List.set_cons_zero, nx_nx]
  rw [e_seq, e_for, e_iSeq, e_var]
  simp only [List.getElem?_cons_succ, List.getElem?_cons_zero, b_ok, o_ok, h1, nx_nx]
  rw [e_seq, e_for, e_iSeq, e_sl]
  simp only [e_var, e_nop, e_part, e_c, List.getElem?_cons_succ, List.getElem?_cons_zero, b_ok, o_ok, sl_l, hcut, mkL_f, h2, nx_nx]
  rw [e_seq, e_for, e_iSeq, e_var]
  simp only [List.getElem?_cons_succ, List.getElem?_cons_zero, b_ok, o_ok, e3, nx_nx]
  simp [mkL_f, mkL_t, wipeP, mulOk, lw_l, lw_c, lv_l, lv_c, lv_x, sv_l, sv_c, sv_x, sv_t, lw_i, lw_s, lw_t, lv_s, lv_t, lv_i, lv_n, add_ii, add_ss, add_tt, add_ll, add_lc, add_cl, add_cc, sub_ii, plus_ii, mul_ii, mul_li, fdv_ii, mod_ii, pow_ii, neg_i, sh_i, sh_s, sh_t, sh_l, sh_n, sh_b, sh_c, eq_nn, ne_nn, eq_ni, ne_ni, eq_in, ne_in, eq_nb, ne_nb, eq_bn, ne_bn, eq_ns, ne_ns, eq_sn, ne_sn, eq_ii, ne_ii, eq_bb, ne_bb, eq_ss, ne_ss, eq_is, ne_is, eq_si, ne_si, eq_bs, ne_bs, eq_sb, ne_sb, isn_n, non_n, isn_i, non_i, isn_b, non_b, isn_s, non_s, isn_t, non_t, isn_l, non_l, isn_c, non_c, isn_x, non_x, tru_n, tru_b, tru_i, tru_t, tru_l, notv_b, ix_t, ix_s, ix_l, ix_x, ix_c, ixl_c, sl_t, sl_s, sl_l, sl_c, rev_l, rev_c, len_t, len_l, len_x, len_s, len_c, list_t, list_l, list_x, list_c, tuple_t, tuple_l, tuple_c, int_i, int_b, abs_i, ord_s, isi_n, isi_b, isi_i, isi_s, isi_t, isi_l, isi_c, kindc, max_ii, min_ii, app_c, ext_c, set_c, sidx_ss, cm_ii, cm_ile, cm_igt, cm_ige, isl_l, isl_c, isl_s, iss_s, iss_l, b_ok, b_st, b_ex, o_ok, o_st, o_ex, c_ok, c_st, c_ex, fin_rt, fin_nx, fin_st, nx_nx, nx_rt, nx_bk, nx_ct, nx_ex, nx_st, e_seq, e_var, e_c, e_op, e_un, e_nil, e_cons, e_call, e_tup, e_lst, e_otup, e_olst, e_gd, e_asg, e_drop, e_ret, e_retN, e_next, e_brk, e_cont, e_ifs, e_setS, e_aug, e_augS, e_tru, e_bl, e_and, e_or, e_not, e_andV, e_orV, e_notV, e_if, e_chain, e_nop, e_part, e_sl, e_iSeq, e_iR1, e_iR2, rngOk_of, rngOk2_of, e_for, e_lc, e_yes, e_mt, e_mt2, e_join, e_put, e_fits, Tg.put, TgL.puts, cut_tree0]

end
/-! K8 -/
section
open PySem PySem.Spec PyProof.Rows
/-! ### keys and back, prefixes -/
theorem foldB_dig (z : Int) (h : 0 ≤ z ∧ z < 1099511627776) : foldB (dig5 z) = z := by
  simp only [foldB, dig5, List.foldl_cons, List.foldl_nil]
  omega
theorem intAt_dig {i : Int} (h : Kv.Good (.n i)) (l : List Int) : intAt (dig5 (i + 549755813888) ++ l) = some i := by
  obtain ⟨h1, h2⟩ := h
  have e : (dig5 (i + 549755813888) ++ l).take 5 = dig5 (i + 549755813888) := rfl
  unfold intAt
  rw [if_neg (by simp [dig5]), e, foldB_dig _ (by omega)]
  have e2 : i + 549755813888 - 549755813888 = i := by omega
  rw [e2, if_pos (show inB i = true from decide_eq_true (by omega))]
theorem txtAt_kb {x : List Nat} (h : Kv.Good (.t x)) (l : List Int) : txtAt 7 [] (x.map (fun c : Nat => (c : Int)) ++ 0 :: l) = some x := by
  obtain ⟨h1, h2⟩ := h
  rw [txtAt_first 7 [] _ l (fun q => by
    obtain ⟨c, hc, e⟩ := List.mem_map.mp q
    have := (h2 c hc).1
    omega)]
  rw [if_pos]
  · rw [List.map_map]
    have : (Int.toNat ∘ fun c : Nat => (c : Int)) = id := by funext c; simp
    rw [this]; simp
  · refine ⟨by rw [List.length_map]; omega, List.all_eq_true.mpr fun c hc => ?_⟩
    obtain ⟨d, hd, rfl⟩ := List.mem_map.mp hc
    have := h2 d hd
    unfold GoodC at this
    exact decide_eq_true (by omega)
theorem dec_keyB : ∀ (vs : List Kv) (f : Nat) (acc : List Kv), (∀ v ∈ vs, v.Good) → (keyB vs).length < f → dec f (keyB vs) acc = some (acc ++ vs)
  | [], 0, acc, _, h => by omega
  | [], f + 1, acc, _, _ => by simp [keyB, dec]
  | v :: vs, 0, acc, _, h => by omega
  | .n i :: vs, f + 1, acc, hg, h => by
    have hi := intAt_dig (hg _ List.mem_cons_self) (keyB vs)
    have e : keyB (.n i :: vs) = 1 :: (dig5 (i + 549755813888) ++ keyB vs) := rfl
    have hd : (dig5 (i + 549755813888) ++ keyB vs).drop 5 = keyB vs := rfl
    rw [e] at h ⊢
    have hl : (dig5 (i + 549755813888)).length = 5 := rfl
    simp only [List.length_cons, List.length_append, hl] at h
    rw [dec, if_pos rfl, hi]
    simp only [hd]
    rw [dec_keyB vs f _ (fun w hw => hg w (List.mem_cons_of_mem _ hw)) (by omega), List.append_assoc]
    rfl
  | .t x :: vs, f + 1, acc, hg, h => by
    have hi := txtAt_kb (hg _ List.mem_cons_self) (keyB vs)
    have e : keyB (.t x :: vs) = 2 :: (x.map (fun c : Nat => (c : Int)) ++ 0 :: keyB vs) := by
      show kb (.t x) ++ keyB vs = _
      simp [kb]
    have hd : (x.map (fun c : Nat => (c : Int)) ++ 0 :: keyB vs).drop (x.length + 1) = keyB vs := by
      rw [List.drop_append, List.drop_of_length_le (by rw [List.length_map]; omega), List.length_map, show x.length + 1 - x.length = 1 by omega]
      rfl
    rw [e] at h ⊢
    simp only [List.length_cons, List.length_append, List.length_map] at h
    rw [dec, if_neg (by decide), if_pos rfl, hi]
    simp only [hd]
    rw [dec_keyB vs f _ (fun w hw => hg w (List.mem_cons_of_mem _ hw)) (by omega), List.append_assoc]
    rfl
theorem decode_keyB {vs : List Kv} (h : ∀ v ∈ vs, v.Good) : decode (keyB vs) = some vs := by
  unfold decode
  rw [dec_keyB vs _ [] h (by omega)]
  rfl
theorem dec_len : ∀ (f : Nat) (l : List Int) (acc vs : List Kv), dec f l acc = some vs → vs.length ≤ acc.length + l.length
  | 0, _, _, _, h => by simp [dec] at h
  | f + 1, [], acc, vs, h => by simp [dec] at h; subst h; omega
  | f + 1, c :: r, acc, vs, h => by
    rw [dec] at h
    split at h
    · split at h
      · have := dec_len f _ _ _ h
        simp only [List.length_append, List.length_drop, List.length_cons, List.length_nil] at this ⊢
        omega
      · cases h
    · split at h
      · split at h
        · have := dec_len f _ _ _ h
          simp only [List.length_append, List.length_drop, List.length_cons, List.length_nil] at this ⊢
          omega
        · cases h
      · cases h
theorem sm_dec {k : List Int} (h : k.length ≤ 80000) : Sm 3 (optP rp (decode k)) := by
  cases hd : decode k with
  | none => exact .non _
  | some vs =>
    have := dec_len _ _ _ _ hd
    simp only [List.length_nil] at this
    exact Sm.row (n := 2) (by omega)
theorem pre_in : ∀ {a b : List Kv}, (∀ v ∈ a, v.Good) → (∀ v ∈ b, v.Good) → (!lexI (keyB b) (keyB a) && lexI (keyB b) (keyB a ++ [3])) = decide (b.take a.length = a)
  | [], [], _, _ => by decide
  | [], w :: b, _, _ => by
    obtain ⟨c, r, e, hc⟩ := kb_ne (v := w)
    have e1 : keyB (w :: b) = c :: (r ++ keyB b) := by show kb w ++ keyB b = _; rw [e]; rfl
    rw [e1]
    have h3 : c ≠ 3 := by omega
    have h4 : c < 3 := by omega
    simp [keyB, lexI, h3, h4]
  | v :: a, [], _, _ => by
    obtain ⟨c, r, e, _⟩ := kb_ne (v := v)
    have e1 : keyB (v :: a) = c :: (r ++ keyB a) := by show kb v ++ keyB a = _; rw [e]; rfl
    rw [e1]
    simp [keyB, lexI]
  | v :: a, w :: b, ha, hb => by
    have ih := pre_in (a := a) (b := b) (fun x hx => ha x (List.mem_cons_of_mem _ hx)) (fun x hx => hb x (List.mem_cons_of_mem _ hx))
    show (!lexI (kb w ++ keyB b) (kb v ++ keyB a) && lexI (kb w ++ keyB b) ((kb v ++ keyB a) ++ [3])) = _
    rw [List.append_assoc]
    by_cases e : w = v
    · subst e
      rw [lexI_pre, lexI_pre, ih]
      simp
    · have p := part_kb (hb w List.mem_cons_self) (ha v List.mem_cons_self) e
      rw [p.lexI, p.lexI]
      have : ¬ ((w :: b).take (v :: a).length = v :: a) := by
        simp [e]
      rw [decide_eq_false this]
      cases w.lt v <;> rfl

end
/-! K9 -/
section
open PySem PySem.Spec PyProof.Rows
/-! ### the law -/
structure Rows (m : M) (R : List (List Kv)) : Prop where
  len : m.length = 2
  st : StAt 0 m
  at1 : m[1]? = some (.lst (R.map rp))
  le6 : R.length ≤ 6
  good : ∀ r ∈ R, (∀ v ∈ r, v.Good) ∧ r.length ≤ 7
theorem Rows.step {m m' : M} {R : List (List Kv)} (h : Rows m R) (s : Stp 0 m m') : Rows m' R := by
  obtain ⟨⟨c, rfl⟩, st⟩ := s
  exact ⟨by rw [List.length_set]; exact h.len, st, by rw [List.getElem?_set_ne (by decide)]; exact h.at1, h.le6, h.good⟩
def GoodRow (r : List Kv) : Prop := (∀ v ∈ r, v.Good) ∧ r.length ≤ 7
theorem row_draw {m m0 : M} (L : Int) (hL : 0 < L ∧ L ≤ 8) (s : Stp 0 m0 m) (a0 : P) (o2 o4 o5 : Option P) : ∃ vs m', (fCall oTuple (fCons (fLc false (iR1 (fCons (fCall (gd 2 f_next) (fCons (fVar 1) (fCons (fC (.int L)) fNil))) fNil)) (.name 3) fYes (fCall (gd 1 f_value) (fCons (fVar 1) fNil)) [3]) fNil)) [some a0, some (.cell 0), o2, none, o4, o5, none, none, none, none, none, none, none, none] m = .ok (rp vs) m' ∧ (∀ v ∈ vs, v.Good) ∧ (vs.length : Int) < L ∧ Stp 0 m0 m' := by
  obtain ⟨r, m1, e1, a1, b1, s1⟩ := draw L s (by omega)
  have hv : ∀ x ∈ rngP 0 r.toNat, ∀ n, Stp 0 m0 n → ∃ y n', (fCall (gd 1 f_value) (fCons (fVar 1) fNil)) (([some a0, some (.cell 0), o2, none, o4, o5, none, none, none, none, none, none, none, none] : Env).set 3 (some x)) n = .ok y n' ∧ (∃ v, v.Good ∧ y = kp v) ∧ Stp 0 m0 n' := fun x _ n hn => by
    obtain ⟨v, n', e, g, st⟩ := value_k hn.2
    exact ⟨kp v, n', by simp [mkL_f, mkL_t, wipeP, mulOk, lw_l, lw_c, lv_l, lv_c, lv_x, sv_l, sv_c, sv_x, sv_t, lw_i, lw_s, lw_t, lv_s, lv_t, lv_i, lv_n, add_ii, add_ss, add_tt, add_ll, add_lc, add_cl, add_cc, sub_ii, plus_ii, mul_ii, mul_li, fdv_ii, mod_ii, pow_ii, neg_i, sh_i, sh_s, sh_t, sh_l, sh_n, sh_b, sh_c, eq_nn, ne_nn, eq_ni, ne_ni, eq_in, ne_in, eq_nb, ne_nb, eq_bn, ne_bn, eq_ns, ne_ns, eq_sn, ne_sn, eq_ii, ne_ii, eq_bb, ne_bb, eq_ss, ne_ss, eq_is, ne_is, eq_si, ne_si, eq_bs, ne_bs, eq_sb, ne_sb, isn_n, non_n, isn_i, non_i, isn_b, non_b, isn_s, non_s, isn_t, non_t, isn_l, non_l, isn_c, non_c, isn_x, non_x, tru_n, tru_b, tru_i, tru_t, tru_l, notv_b, ix_t, ix_s, ix_l, ix_x, ix_c, ixl_c, sl_t, sl_s, sl_l, sl_c, rev_l, rev_c, len_t, len_l, len_x, len_s, len_c, list_t, list_l, list_x, list_c, tuple_t, tuple_l, tuple_c, int_i, int_b, abs_i, ord_s, isi_n, isi_b, isi_i, isi_s, isi_t, isi_l, isi_c, kindc, max_ii, min_ii, app_c, ext_c, set_c, sidx_ss, cm_ii, cm_ile, cm_igt, cm_ige, isl_l, isl_c, isl_s, iss_s, iss_l, b_ok, b_st, b_ex, o_ok, o_st, o_ex, c_ok, c_st, c_ex, fin_rt, fin_nx, fin_st, nx_nx, nx_rt, nx_bk, nx_ct, nx_ex, nx_st, e_seq, e_var, e_c, e_op, e_un, e_nil, e_cons, e_call, e_tup, e_lst, e_otup, e_olst, e_gd, e_asg, e_drop, e_ret, e_retN, e_next, e_brk, e_cont, e_ifs, e_setS, e_aug, e_augS, e_tru, e_bl, e_and, e_or, e_not, e_andV, e_orV, e_notV, e_if, e_chain, e_nop, e_part, e_sl, e_iSeq, e_iR1, e_iR2, rngOk_of, rngOk2_of, e_for, e_lc, e_yes, e_mt, e_mt2, e_join, e_put, e_fits, Tg.put, TgL.puts, e], ⟨v, g, rfl⟩, hn.trans st⟩
  obtain ⟨ys, m2, e2, l2, p2, s2⟩ := lcG_ex (i := 3) (ρ := [some a0, some (.cell 0), o2, none, o4, o5, none, none, none, none, none, none, none, none]) (Inv := Stp 0 m0) (Py := fun y => ∃ v : Kv, v.Good ∧ y = kp v) hv s1
  obtain ⟨vs, rfl, hg⟩ := all_map (Q := Kv.Good) (f := kp) p2
  have hlen : vs.length = r.toNat := by simpa [rngP] using l2
  refine ⟨vs, m2, ?_, hg, by omega, s2⟩
  have k0 : (rngP 0 r.toNat).length ≤ 100000 := by simp [rngP]; omega
  have k1 : r ≤ 100000 := by omega
  simp [mkL_f, mkL_t, wipeP, mulOk, lw_l, lw_c, lv_l, lv_c, lv_x, sv_l, sv_c, sv_x, sv_t, lw_i, lw_s, lw_t, lv_s, lv_t, lv_i, lv_n, add_ii, add_ss, add_tt, add_ll, add_lc, add_cl, add_cc, sub_ii, plus_ii, mul_ii, mul_li, fdv_ii, mod_ii, pow_ii, neg_i, sh_i, sh_s, sh_t, sh_l, sh_n, sh_b, sh_c, eq_nn, ne_nn, eq_ni, ne_ni, eq_in, ne_in, eq_nb, ne_nb, eq_bn, ne_bn, eq_ns, ne_ns, eq_sn, ne_sn, eq_ii, ne_ii, eq_bb, ne_bb, eq_ss, ne_ss, eq_is, ne_is, eq_si, ne_si, eq_bs, ne_bs, eq_sb, ne_sb, isn_n, non_n, isn_i, non_i, isn_b, non_b, isn_s, non_s, isn_t, non_t, isn_l, non_l, isn_c, non_c, isn_x, non_x, tru_n, tru_b, tru_i, tru_t, tru_l, notv_b, ix_t, ix_s, ix_l, ix_x, ix_c, ixl_c, sl_t, sl_s, sl_l, sl_c, rev_l, rev_c, len_t, len_l, len_x, len_s, len_c, list_t, list_l, list_x, list_c, tuple_t, tuple_l, tuple_c, int_i, int_b, abs_i, ord_s, isi_n, isi_b, isi_i, isi_s, isi_t, isi_l, isi_c, kindc, max_ii, min_ii, app_c, ext_c, set_c, sidx_ss, cm_ii, cm_ile, cm_igt, cm_ige, isl_l, isl_c, isl_s, iss_s, iss_l, b_ok, b_st, b_ex, o_ok, o_st, o_ex, c_ok, c_st, c_ex, fin_rt, fin_nx, fin_st, nx_nx, nx_rt, nx_bk, nx_ct, nx_ex, nx_st, e_seq, e_var, e_c, e_op, e_un, e_nil, e_cons, e_call, e_tup, e_lst, e_otup, e_olst, e_gd, e_asg, e_drop, e_ret, e_retN, e_next, e_brk, e_cont, e_ifs, e_setS, e_aug, e_augS, e_tru, e_bl, e_and, e_or, e_not, e_andV, e_orV, e_notV, e_if, e_chain, e_nop, e_part, e_sl, e_iSeq, e_iR1, e_iR2, rngOk_of, rngOk2_of, e_for, e_lc, e_yes, e_mt, e_mt2, e_join, e_put, e_fits, Tg.put, TgL.puts, e1, a1, k1, k0, e2, rp]
theorem law_rows {m0 : M} (h0 : StAt 0 m0) (l0 : m0.length = 1) (a0 : P) : ∃ R m', (fAsg (.name 4) (fLc true (iR1 (fCons (fOp (oAdd false) (fC (.int 1)) (fCall (gd 2 f_next) (fCons (fVar 1) (fCons (fC (.int 6)) fNil)))) fNil)) (.name 2) fYes (fCall oTuple (fCons (fLc false (iR1 (fCons (fCall (gd 2 f_next) (fCons (fVar 1) (fCons (fC (.int 8)) fNil))) fNil)) (.name 3) fYes (fCall (gd 1 f_value) (fCons (fVar 1) fNil)) [3]) fNil)) [2])) [some a0, some (.cell 0), none, none, none, none, none, none, none, none, none, none, none, none] m0 = .nx [some a0, some (.cell 0), none, none, some (.cell 1), none, none, none, none, none, none, none, none, none] m' ∧ Rows m' R ∧ R ≠ [] := by
  obtain ⟨r, m1, e1, a1, b1, s1⟩ := draw 6 (Stp.refl h0) (by omega)
  obtain ⟨ys, m2, e2, l2, p2, s2⟩ := lcG_ex (i := 2) (te := (fCall oTuple (fCons (fLc false (iR1 (fCons (fCall (gd 2 f_next) (fCons (fVar 1) (fCons (fC (.int 8)) fNil))) fNil)) (.name 3) fYes (fCall (gd 1 f_value) (fCons (fVar 1) fNil)) [3]) fNil))) (xs := rngP 0 (1 + r).toNat) (ρ := [some a0, some (.cell 0), none, none, none, none, none, none, none, none, none, none, none, none]) (Inv := Stp 0 m0) (Py := fun y => ∃ vs : List Kv, GoodRow vs ∧ y = rp vs) (fun x _ n hn => by
    obtain ⟨vs, n', e, g, hl, st⟩ := row_draw 8 (by omega) hn a0 (some x) none none
    exact ⟨rp vs, n', by simpa using e, ⟨vs, ⟨g, by omega⟩, rfl⟩, st⟩) s1
  obtain ⟨R, rfl, hg⟩ := all_map (Q := GoodRow) (f := rp) p2
  have hlen : R.length = (1 + r).toNat := by simpa [rngP] using l2
  have k1 : 1 + r ≤ 100000 := by omega
  have k2 : 0 ≤ 1 + r := by omega
  have k3 : (rngP 0 (1 + r).toNat).length ≤ 100000 := by simp [rngP]; omega
  have hm2 : m2.length = 1 := by rw [s2.len, l0]
  refine ⟨R, m2 ++ [.lst (R.map rp)], ?_, ⟨by rw [List.length_append, hm2]; rfl, ?_, ?_, by omega, hg⟩, ?_⟩
  · simp [mkL_f, mkL_t, wipeP, mulOk, lw_l, lw_c, lv_l, lv_c, lv_x, sv_l, sv_c, sv_x, sv_t, lw_i, lw_s, lw_t, lv_s, lv_t, lv_i, lv_n, add_ii, add_ss, add_tt, add_ll, add_lc, add_cl, add_cc, sub_ii, plus_ii, mul_ii, mul_li, fdv_ii, mod_ii, pow_ii, neg_i, sh_i, sh_s, sh_t, sh_l, sh_n, sh_b, sh_c, eq_nn, ne_nn, eq_ni, ne_ni, eq_in, ne_in, eq_nb, ne_nb, eq_bn, ne_bn, eq_ns, ne_ns, eq_sn, ne_sn, eq_ii, ne_ii, eq_bb, ne_bb, eq_ss, ne_ss, eq_is, ne_is, eq_si, ne_si, eq_bs, ne_bs, eq_sb, ne_sb, isn_n, non_n, isn_i, non_i, isn_b, non_b, isn_s, non_s, isn_t, non_t, isn_l, non_l, isn_c, non_c, isn_x, non_x, tru_n, tru_b, tru_i, tru_t, tru_l, notv_b, ix_t, ix_s, ix_l, ix_x, ix_c, ixl_c, sl_t, sl_s, sl_l, sl_c, rev_l, rev_c, len_t, len_l, len_x, len_s, len_c, list_t, list_l, list_x, list_c, tuple_t, tuple_l, tuple_c, int_i, int_b, abs_i, ord_s, isi_n, isi_b, isi_i, isi_s, isi_t, isi_l, isi_c, kindc, max_ii, min_ii, app_c, ext_c, set_c, sidx_ss, cm_ii, cm_ile, cm_igt, cm_ige, isl_l, isl_c, isl_s, iss_s, iss_l, b_ok, b_st, b_ex, o_ok, o_st, o_ex, c_ok, c_st, c_ex, fin_rt, fin_nx, fin_st, nx_nx, nx_rt, nx_bk, nx_ct, nx_ex, nx_st, e_seq, e_var, e_c, e_op, e_un, e_nil, e_cons, e_call, e_tup, e_lst, e_otup, e_olst, e_gd, e_asg, e_drop, e_ret, e_retN, e_next, e_brk, e_cont, e_ifs, e_setS, e_aug, e_augS, e_tru, e_bl, e_and, e_or, e_not, e_andV, e_orV, e_notV, e_if, e_chain, e_nop, e_part, e_sl, e_iSeq, e_iR1, e_iR2, rngOk_of, rngOk2_of, e_for, e_lc, e_yes, e_mt, e_mt2, e_join, e_put, e_fits, Tg.put, TgL.puts, e1, k1, k2, k3, e2, hm2]
  · obtain ⟨sc, i, h, s, e, hh⟩ := s2.2
    exact ⟨sc, i, h, s, by rw [List.getElem?_append_left (by omega)]; exact e, hh⟩
  · rw [List.getElem?_append_right (by omega), hm2]; rfl
  · intro q
    rw [q] at hlen
    simp at hlen
    omega
theorem law_second {m : M} {R : List (List Kv)} (h : Rows m R) (hne : R ≠ []) (a0 : P) : ∃ R' m', (fIfS (fBl (fOp (oCm .gt) (fCall oLen (fCons (fVar 4) fNil)) (fC (.int 1)))) (fSetS (fVar 4) (fC (.int 1)) (fOp (oAdd false) (fSl false (fOp oIx (fVar 4) (fC (.int 0))) fNoPart (fPart (fC (.int 6)))) (fCall oTuple (fCons (fLc false (iR1 (fCons (fCall (gd 2 f_next) (fCons (fVar 1) (fCons (fC (.int 2)) fNil))) fNil)) (.name 3) fYes (fCall (gd 1 f_value) (fCons (fVar 1) fNil)) [3]) fNil)))) fNext) [some a0, some (.cell 0), none, none, some (.cell 1), none, none, none, none, none, none, none, none, none] m = .nx [some a0, some (.cell 0), none, none, some (.cell 1), none, none, none, none, none, none, none, none, none] m' ∧ Rows m' R' ∧ R' ≠ [] := by
  by_cases h1 : 1 < R.length
  · obtain ⟨vs, m1, e, g, hl, st⟩ := row_draw 2 (by omega) (Stp.refl h.st) a0 none (some (.cell 1)) none
    obtain ⟨a, R1, rfl⟩ := List.exists_cons_of_ne_nil hne
    have hR := h.step st
    have ha := h.good a List.mem_cons_self
    have hcut : cutL (a.map kp) none (some 6) = (a.take 6).map kp := by
      have := cut_to (a.map kp) 6
      rw [show ((6 : Nat) : Int) = 6 from rfl, ← List.map_take] at this
      exact this
    have hnew : GoodRow (a.take 6 ++ vs) := by
      refine ⟨fun v hv => ?_, ?_⟩
      · rcases List.mem_append.mp hv with q | q
        · exact ha.1 v (List.mem_of_mem_take q)
        · exact g v q
      · rw [List.length_append, List.length_take]; omega
    have hadd : ∀ n, oAdd false (.tup ((a.map kp).take 6)) (rp vs) n = .ok (rp (a.take 6 ++ vs)) n := fun n => by
      rw [← List.map_take]
      unfold rp
      rw [add_tt, if_pos, List.map_append]
      exact decide_eq_true (by rw [List.length_map, List.length_map, List.length_take]; omega)
    have hat : m[1]? = some (.lst ((a :: R1).map rp)) := h.at1
    have hat1 : m1[1]? = some (.lst ((a :: R1).map rp)) := hR.at1
    have h1' : 1 < ((a :: R1).length : Int) := by omega
    refine ⟨(a :: R1).set 1 (a.take 6 ++ vs), m1.set 1 (.lst (((a :: R1).set 1 (a.take 6 ++ vs)).map rp)), ?_, ⟨by rw [List.length_set]; exact hR.len, ?_, ?_, by rw [List.length_set]; exact h.le6, fun r hr => ?_⟩, by simp⟩
    · have hx : ixN (((a :: R1).map rp).length) 1 = some 1 := ixN_nat' (n := ((a :: R1).map rp).length) (k := 1) (by simpa using h1)
      have hrp : rp a = .tup (a.map kp) := rfl
      simp only [List.map_set]
      simp only [List.map_cons, List.length_cons, List.length_map] at hat hat1 h1' hx
      generalize (fCall oTuple (fCons (fLc false (iR1 (fCons (fCall (gd 2 f_next) (fCons (fVar 1) (fCons (fC (.int 2)) fNil))) fNil)) (.name 3) fYes (fCall (gd 1 f_value) (fCons (fVar 1) fNil)) [3]) fNil)) = te at e ⊢
      simp at h1'
      simp [mkL_f, mkL_t, wipeP, mulOk, lw_l, lw_c, lv_l, lv_c, lv_x, sv_l, sv_c, sv_x, sv_t, lw_i, lw_s, lw_t, lv_s, lv_t, lv_i, lv_n, add_ii, add_ss, add_tt, add_ll, add_lc, add_cl, add_cc, sub_ii, plus_ii, mul_ii, mul_li, fdv_ii, mod_ii, pow_ii, neg_i, sh_i, sh_s, sh_t, sh_l, sh_n, sh_b, sh_c, eq_nn, ne_nn, eq_ni, ne_ni, eq_in, ne_in, eq_nb, ne_nb, eq_bn, ne_bn, eq_ns, ne_ns, eq_sn, ne_sn, eq_ii, ne_ii, eq_bb, ne_bb, eq_ss, ne_ss, eq_is, ne_is, eq_si, ne_si, eq_bs, ne_bs, eq_sb, ne_sb, isn_n, non_n, isn_i, non_i, isn_b, non_b, isn_s, non_s, isn_t, non_t, isn_l, non_l, isn_c, non_c, isn_x, non_x, tru_n, tru_b, tru_i, tru_t, tru_l, notv_b, ix_t, ix_s, ix_l, ix_x, ix_c, ixl_c, sl_t, sl_s, sl_l, sl_c, rev_l, rev_c, len_t, len_l, len_x, len_s, len_c, list_t, list_l, list_x, list_c, tuple_t, tuple_l, tuple_c, int_i, int_b, abs_i, ord_s, isi_n, isi_b, isi_i, isi_s, isi_t, isi_l, isi_c, kindc, max_ii, min_ii, app_c, ext_c, set_c, sidx_ss, cm_ii, cm_ile, cm_igt, cm_ige, isl_l, isl_c, isl_s, iss_s, iss_l, b_ok, b_st, b_ex, o_ok, o_st, o_ex, c_ok, c_st, c_ex, fin_rt, fin_nx, fin_st, nx_nx, nx_rt, nx_bk, nx_ct, nx_ex, nx_st, e_seq, e_var, e_c, e_op, e_un, e_nil, e_cons, e_call, e_tup, e_lst, e_otup, e_olst, e_gd, e_asg, e_drop, e_ret, e_retN, e_next, e_brk, e_cont, e_ifs, e_setS, e_aug, e_augS, e_tru, e_bl, e_and, e_or, e_not, e_andV, e_orV, e_notV, e_if, e_chain, e_nop, e_part, e_sl, e_iSeq, e_iR1, e_iR2, rngOk_of, rngOk2_of, e_for, e_lc, e_yes, e_mt, e_mt2, e_join, e_put, e_fits, Tg.put, TgL.puts, hat, hat1, h1', atI_0, hrp, hcut, e, hadd, hx]
    · obtain ⟨sc, i, hh, s, e, q⟩ := hR.st
      exact ⟨sc, i, hh, s, by rw [List.getElem?_set_ne (by decide)]; exact e, q⟩
    · rw [List.getElem?_set_self (by rw [hR.len]; decide)]
    · rcases List.mem_or_eq_of_mem_set hr with q | q
      · exact h.good r q
      · rw [q]; exact hnew
  · have h1' : ¬ (1 < R.length) := h1
    have h1'' : ¬ (1 < (R.length : Int)) := by omega
    refine ⟨R, m, ?_, h, hne⟩
    simp [mkL_f, mkL_t, wipeP, mulOk, lw_l, lw_c, lv_l, lv_c, lv_x, sv_l, sv_c, sv_x, sv_t, lw_i, lw_s, lw_t, lv_s, lv_t, lv_i, lv_n, add_ii, add_ss, add_tt, add_ll, add_lc, add_cl, add_cc, sub_ii, plus_ii, mul_ii, mul_li, fdv_ii, mod_ii, pow_ii, neg_i, sh_i, sh_s, sh_t, sh_l, sh_n, sh_b, sh_c, eq_nn, ne_nn, eq_ni, ne_ni, eq_in, ne_in, eq_nb, ne_nb, eq_bn, ne_bn, eq_ns, ne_ns, eq_sn, ne_sn, eq_ii, ne_ii, eq_bb, ne_bb, eq_ss, ne_ss, eq_is, ne_is, eq_si, ne_si, eq_bs, ne_bs, eq_sb, ne_sb, isn_n, non_n, isn_i, non_i, isn_b, non_b, isn_s, non_s, isn_t, non_t, isn_l, non_l, isn_c, non_c, isn_x, non_x, tru_n, tru_b, tru_i, tru_t, tru_l, notv_b, ix_t, ix_s, ix_l, ix_x, ix_c, ixl_c, sl_t, sl_s, sl_l, sl_c, rev_l, rev_c, len_t, len_l, len_x, len_s, len_c, list_t, list_l, list_x, list_c, tuple_t, tuple_l, tuple_c, int_i, int_b, abs_i, ord_s, isi_n, isi_b, isi_i, isi_s, isi_t, isi_l, isi_c, kindc, max_ii, min_ii, app_c, ext_c, set_c, sidx_ss, cm_ii, cm_ile, cm_igt, cm_ige, isl_l, isl_c, isl_s, iss_s, iss_l, b_ok, b_st, b_ex, o_ok, o_st, o_ex, c_ok, c_st, c_ex, fin_rt, fin_nx, fin_st, nx_nx, nx_rt, nx_bk, nx_ct, nx_ex, nx_st, e_seq, e_var, e_c, e_op, e_un, e_nil, e_cons, e_call, e_tup, e_lst, e_otup, e_olst, e_gd, e_asg, e_drop, e_ret, e_retN, e_next, e_brk, e_cont, e_ifs, e_setS, e_aug, e_augS, e_tru, e_bl, e_and, e_or, e_not, e_andV, e_orV, e_notV, e_if, e_chain, e_nop, e_part, e_sl, e_iSeq, e_iR1, e_iR2, rngOk_of, rngOk2_of, e_for, e_lc, e_yes, e_mt, e_mt2, e_join, e_put, e_fits, Tg.put, TgL.puts, h.at1, h1', h1'']
theorem law_keys {m : M} {R : List (List Kv)} (h : Rows m R) (a0 : P) : (fAsg (.name 5) (fLc false (iSeq (fVar 4)) (.name 13) fYes (fCall (gd 1 f_bytes) (fCons (fVar 13) fNil)) [13])) [some a0, some (.cell 0), none, none, some (.cell 1), none, none, none, none, none, none, none, none, none] m = .nx [some a0, some (.cell 0), none, none, some (.cell 1), some (.lst (R.map fun r => ip (keyB r))), none, none, none, none, none, none, none, none] m := by
  have hm : lcG (.name 13) fYes (fCall (gd 1 f_bytes) (fCons (fVar 13) fNil)) [(1, R.map rp)] [some a0, some (.cell 0), none, none, some (.cell 1), none, none, none, none, none, none, none, none, none] (R.map rp) m = .ok (R.map fun r => ip (keyB r)) m :=
    lcG_mapC (m := m) (chk := [(1, R.map rp)]) (show _ ∧ _ from ⟨h.at1, trivial⟩) fun r hr => by
      obtain ⟨g, l⟩ := h.good r hr
      have := lbytes_k g (by omega) m
      simp [mkL_f, mkL_t, wipeP, mulOk, lw_l, lw_c, lv_l, lv_c, lv_x, sv_l, sv_c, sv_x, sv_t, lw_i, lw_s, lw_t, lv_s, lv_t, lv_i, lv_n, add_ii, add_ss, add_tt, add_ll, add_lc, add_cl, add_cc, sub_ii, plus_ii, mul_ii, mul_li, fdv_ii, mod_ii, pow_ii, neg_i, sh_i, sh_s, sh_t, sh_l, sh_n, sh_b, sh_c, eq_nn, ne_nn, eq_ni, ne_ni, eq_in, ne_in, eq_nb, ne_nb, eq_bn, ne_bn, eq_ns, ne_ns, eq_sn, ne_sn, eq_ii, ne_ii, eq_bb, ne_bb, eq_ss, ne_ss, eq_is, ne_is, eq_si, ne_si, eq_bs, ne_bs, eq_sb, ne_sb, isn_n, non_n, isn_i, non_i, isn_b, non_b, isn_s, non_s, isn_t, non_t, isn_l, non_l, isn_c, non_c, isn_x, non_x, tru_n, tru_b, tru_i, tru_t, tru_l, notv_b, ix_t, ix_s, ix_l, ix_x, ix_c, ixl_c, sl_t, sl_s, sl_l, sl_c, rev_l, rev_c, len_t, len_l, len_x, len_s, len_c, list_t, list_l, list_x, list_c, tuple_t, tuple_l, tuple_c, int_i, int_b, abs_i, ord_s, isi_n, isi_b, isi_i, isi_s, isi_t, isi_l, isi_c, kindc, max_ii, min_ii, app_c, ext_c, set_c, sidx_ss, cm_ii, cm_ile, cm_igt, cm_ige, isl_l, isl_c, isl_s, iss_s, iss_l, b_ok, b_st, b_ex, o_ok, o_st, o_ex, c_ok, c_st, c_ex, fin_rt, fin_nx, fin_st, nx_nx, nx_rt, nx_bk, nx_ct, nx_ex, nx_st, e_seq, e_var, e_c, e_op, e_un, e_nil, e_cons, e_call, e_tup, e_lst, e_otup, e_olst, e_gd, e_asg, e_drop, e_ret, e_retN, e_next, e_brk, e_cont, e_ifs, e_setS, e_aug, e_augS, e_tru, e_bl, e_and, e_or, e_not, e_andV, e_orV, e_notV, e_if, e_chain, e_nop, e_part, e_sl, e_iSeq, e_iR1, e_iR2, rngOk_of, rngOk2_of, e_for, e_lc, e_yes, e_mt, e_mt2, e_join, e_put, e_fits, Tg.put, TgL.puts, rp, this]
  have k1 : R.length ≤ 100000 := by have := h.le6; omega
  simp [mkL_f, mkL_t, wipeP, mulOk, lw_l, lw_c, lv_l, lv_c, lv_x, sv_l, sv_c, sv_x, sv_t, lw_i, lw_s, lw_t, lv_s, lv_t, lv_i, lv_n, add_ii, add_ss, add_tt, add_ll, add_lc, add_cl, add_cc, sub_ii, plus_ii, mul_ii, mul_li, fdv_ii, mod_ii, pow_ii, neg_i, sh_i, sh_s, sh_t, sh_l, sh_n, sh_b, sh_c, eq_nn, ne_nn, eq_ni, ne_ni, eq_in, ne_in, eq_nb, ne_nb, eq_bn, ne_bn, eq_ns, ne_ns, eq_sn, ne_sn, eq_ii, ne_ii, eq_bb, ne_bb, eq_ss, ne_ss, eq_is, ne_is, eq_si, ne_si, eq_bs, ne_bs, eq_sb, ne_sb, isn_n, non_n, isn_i, non_i, isn_b, non_b, isn_s, non_s, isn_t, non_t, isn_l, non_l, isn_c, non_c, isn_x, non_x, tru_n, tru_b, tru_i, tru_t, tru_l, notv_b, ix_t, ix_s, ix_l, ix_x, ix_c, ixl_c, sl_t, sl_s, sl_l, sl_c, rev_l, rev_c, len_t, len_l, len_x, len_s, len_c, list_t, list_l, list_x, list_c, tuple_t, tuple_l, tuple_c, int_i, int_b, abs_i, ord_s, isi_n, isi_b, isi_i, isi_s, isi_t, isi_l, isi_c, kindc, max_ii, min_ii, app_c, ext_c, set_c, sidx_ss, cm_ii, cm_ile, cm_igt, cm_ige, isl_l, isl_c, isl_s, iss_s, iss_l, b_ok, b_st, b_ex, o_ok, o_st, o_ex, c_ok, c_st, c_ex, fin_rt, fin_nx, fin_st, nx_nx, nx_rt, nx_bk, nx_ct, nx_ex, nx_st, e_seq, e_var, e_c, e_op, e_un, e_nil, e_cons, e_call, e_tup, e_lst, e_otup, e_olst, e_gd, e_asg, e_drop, e_ret, e_retN, e_next, e_brk, e_cont, e_ifs, e_setS, e_aug, e_augS, e_tru, e_bl, e_and, e_or, e_not, e_andV, e_orV, e_notV, e_if, e_chain, e_nop, e_part, e_sl, e_iSeq, e_iR1, e_iR2, rngOk_of, rngOk2_of, e_for, e_lc, e_yes, e_mt, e_mt2, e_join, e_put, e_fits, Tg.put, TgL.puts, h.at1, k1, hm]

end
/-! K10 -/
section
open PySem PySem.Spec PyProof.Rows
/-! ### each pair of rows -/
def LE (a0 ks : P) (ρ : Env) : Prop := ∃ o2 o3 o6 o7 o8 o9 o10 o11 o12 o13, ρ = [some a0, some (.cell 0), o2, o3, some (.cell 1), some ks, o6, o7, o8, o9, o10, o11, o12, o13]
def LE2 (a0 ks : P) (i : Nat) (ρ : Env) : Prop := ∃ o3 o6 o7 o8 o9 o10 o11 o12 o13, ρ = [some a0, some (.cell 0), some (.int i), o3, some (.cell 1), some ks, o6, o7, o8, o9, o10, o11, o12, o13]
def ksP (R : List (List Kv)) : P := .lst (R.map fun r => ip (keyB r))
theorem Rows.row {m : M} {R : List (List Kv)} (h : Rows m R) {i : Nat} {r : List Kv} (e : R[i]? = some r) : oIx (.cell 1) (.int i) m = .ok (rp r) m := by
  rw [ix_c, lv_c, h.at1]
  simp only [atI_nat', List.getElem?_map, e, Option.map_some]
theorem ks_ix {R : List (List Kv)} {i : Nat} {r : List Kv} (e : R[i]? = some r) (m : M) : oIx (ksP R) (.int i) m = .ok (ip (keyB r)) m := by
  unfold ksP
  rw [ix_l]
  simp only [atI_nat', List.getElem?_map, e, Option.map_some]
theorem Rows.rlen {m : M} {R : List (List Kv)} (h : Rows m R) : oLen [.cell 1] m = .ok (.int (R.length : Int)) m := by
  rw [len_c, h.at1]
  simp only [List.length_map]
theorem keyB_short {r : List Kv} (h : GoodRow r) : (keyB r).length ≤ 56 := by
  have := keyB_len h.1
  have := h.2
  omega
theorem add3 {k : List Int} (h : k.length ≤ 1000) (m : M) : oAdd false (ip k) (.tup [.int 3]) m = .ok (ip (k ++ [3])) m := add_ip k [3] (by simp; omega) m
theorem sl_row (r : List Kv) (n : Nat) (m : M) : oSl false (rp r) none (some (n : Int)) m = .ok (rp (r.take n)) m := by
  unfold rp
  rw [sl_t, cut_to, List.map_take]
theorem pair_j {m : M} {R : List (List Kv)} (h : Rows m R) (a0 : P) {i j : Nat} {r s : List Kv} (hi : R[i]? = some r) (hj : R[j]? = some s) {ρ : Env} (hρ : LE2 a0 (ksP R) i ρ) : ∃ ρ1, (Tg.name 3).put (.int j) ρ = some ρ1 ∧ ∃ ρ2, (fSeq (fAsg (.name 6) (fCall (gd 2 f_order) (fCons (fOp oIx (fVar 4) (fVar 2)) (fCons (fOp oIx (fVar 4) (fVar 3)) fNil))))
  (fSeq (fIfS (fOr (fNot (fTru (fCall (gd 3 f_agrees) (fCons (fCall (gd 1 f_key_of) (fCons (fOp oIx (fVar 4) (fVar 2)) fNil)) (fCons (fCall (gd 1 f_key_of) (fCons (fOp oIx (fVar 4) (fVar 3)) fNil)) (fCons (fVar 6) fNil)))))) (fNot (fTru (fCall (gd 3 f_agrees) (fCons (fCall (gd 1 f_row_order) (fCons (fOp oIx (fVar 4) (fVar 2)) fNil)) (fCons (fCall (gd 1 f_row_order) (fCons (fOp oIx (fVar 4) (fVar 3)) fNil)) (fCons (fVar 6) fNil))))))) (fRet (fC (.bl false))) fNext)
  (fIfS (fBl (fOp oNe (fCall (gd 2 f_is_in) (fCons (fOp oIx (fVar 5) (fVar 3)) (fCons (fCall (gd 1 f_prefix_range) (fCons (fOp oIx (fVar 5) (fVar 2)) fNil)) fNil))) (fOp oEq (fSl false (fOp oIx (fVar 4) (fVar 3)) fNoPart (fPart (fCall oLen (fCons (fOp oIx (fVar 4) (fVar 2)) fNil)))) (fOp oIx (fVar 4) (fVar 2))))) (fRet (fC (.bl false))) fNext))) ρ1 m = .nx ρ2 m ∧ LE2 a0 (ksP R) i ρ2 := by
  obtain ⟨o3, o6, o7, o8, o9, o10, o11, o12, o13, rfl⟩ := hρ
  have gr := h.good r (List.mem_of_getElem? hi)
  have gs := h.good s (List.mem_of_getElem? hj)
  have l1 := keyB_short gr
  have l2 := keyB_short gs
  have f1 := h.row hi
  have f2 := h.row hj
  have f3 := ks_ix hi m
  have f4 := ks_ix hj m
  have f5 := order_k gr.1 gs.1 (by omega) m
  have f6 : f_key_of [rp r] m = .ok (ip (keyB r)) m := key_of_k gr.1 (by omega) m
  have f7 : f_key_of [rp s] m = .ok (ip (keyB s)) m := key_of_k gs.1 (by omega) m
  have f8 : f_row_order [rp r] m = .ok (rop r) m := row_order_k r (by omega) m
  have f9 : f_row_order [rp s] m = .ok (rop s) m := row_order_k s (by omega) m
  have f10 := agrees_keys gr.1 gs.1 m
  have f11 := agrees_rops gr.1 gs.1 m
  have f12 := prefix_range_k (keyB r) m (by omega)
  have f13 := is_in_k (keyB s) (keyB r) (keyB r ++ [3]) m
  rw [pre_in gr.1 gs.1] at f13
  have f14 := row_len r m
  have f15 := sl_row s r.length m
  have f16 := eq_rows (a := s.take r.length) (b := r) (fun v hv => gs.1 v (List.mem_of_mem_take hv)) gr.1 m
  refine ⟨_, rfl, _, ?_, some (.int j), some (.int (sgn r s)), o7, o8, o9, o10, o11, o12, o13, rfl⟩
  clear h
  generalize P.cell 1 = cl at f1 f2 ⊢
  simp [mkL_f, mkL_t, wipeP, mulOk, lw_l, lw_c, lv_l, lv_c, lv_x, sv_l, sv_c, sv_x, sv_t, lw_i, lw_s, lw_t, lv_s, lv_t, lv_i, lv_n, add_ii, add_ss, add_tt, add_ll, add_lc, add_cl, add_cc, sub_ii, plus_ii, mul_ii, mul_li, fdv_ii, mod_ii, pow_ii, neg_i, sh_i, sh_s, sh_t, sh_l, sh_n, sh_b, sh_c, eq_nn, ne_nn, eq_ni, ne_ni, eq_in, ne_in, eq_nb, ne_nb, eq_bn, ne_bn, eq_ns, ne_ns, eq_sn, ne_sn, eq_ii, ne_ii, eq_bb, ne_bb, eq_ss, ne_ss, eq_is, ne_is, eq_si, ne_si, eq_bs, ne_bs, eq_sb, ne_sb, isn_n, non_n, isn_i, non_i, isn_b, non_b, isn_s, non_s, isn_t, non_t, isn_l, non_l, isn_c, non_c, isn_x, non_x, tru_n, tru_b, tru_i, tru_t, tru_l, notv_b, ix_t, ix_s, ix_l, ix_x, ix_c, ixl_c, sl_t, sl_s, sl_l, sl_c, rev_l, rev_c, len_t, len_l, len_x, len_s, len_c, list_t, list_l, list_x, list_c, tuple_t, tuple_l, tuple_c, int_i, int_b, abs_i, ord_s, isi_n, isi_b, isi_i, isi_s, isi_t, isi_l, isi_c, kindc, max_ii, min_ii, app_c, ext_c, set_c, sidx_ss, cm_ii, cm_ile, cm_igt, cm_ige, isl_l, isl_c, isl_s, iss_s, iss_l, b_ok, b_st, b_ex, o_ok, o_st, o_ex, c_ok, c_st, c_ex, fin_rt, fin_nx, fin_st, nx_nx, nx_rt, nx_bk, nx_ct, nx_ex, nx_st, e_seq, e_var, e_c, e_op, e_un, e_nil, e_cons, e_call, e_tup, e_lst, e_otup, e_olst, e_gd, e_asg, e_drop, e_ret, e_retN, e_next, e_brk, e_cont, e_ifs, e_setS, e_aug, e_augS, e_tru, e_bl, e_and, e_or, e_not, e_andV, e_orV, e_notV, e_if, e_chain, e_nop, e_part, e_sl, e_iSeq, e_iR1, e_iR2, rngOk_of, rngOk2_of, e_for, e_lc, e_yes, e_mt, e_mt2, e_join, e_put, e_fits, Tg.put, TgL.puts, f1, f2, f3, f4, f5, f6, f7, f8, f9, f10, f11, f12, f13, f14, f15, f16]
theorem pair_k {m : M} {R : List (List Kv)} (h : Rows m R) (a0 : P) {i : Nat} {r : List Kv} (hi : R[i]? = some r) {ρ : Env} (hρ : LE a0 (ksP R) ρ) : ∃ ρ1, (Tg.name 2).put (.int i) ρ = some ρ1 ∧ ∃ ρ2, (fSeq (fIfS (fOr (fNot (fTru (fCall (gd 2 (f_same 4)) (fCons (fCall (gd 1 f_key_of) (fCons (fOp oIx (fVar 4) (fVar 2)) fNil)) (fCons (fOp oIx (fVar 5) (fVar 2)) fNil))))) (fNot (fTru (fCall (gd 2 (f_same 4)) (fCons (fCall (gd 1 f_values_of) (fCons (fOp oIx (fVar 5) (fVar 2)) fNil)) (fCons (fOp oIx (fVar 4) (fVar 2)) fNil)))))) (fRet (fC (.bl false))) fNext)
  (fSeq (fIfS (fNot (fTru (fCall (gd 2 (f_same 4)) (fCons (fCall (gd 1 f_prefix_range) (fCons (fOp oIx (fVar 5) (fVar 2)) fNil)) (fCons (fTup (fCons (fOp oIx (fVar 5) (fVar 2)) (fCons (fOp (oAdd false) (fOp oIx (fVar 5) (fVar 2)) (fTup (fCons (fC (.int 3)) fNil))) fNil))) fNil))))) (fRet (fC (.bl false))) fNext)
  (fFor (iR1 (fCons (fCall oLen (fCons (fVar 4) fNil)) fNil)) (.name 3) (fSeq (fAsg (.name 6) (fCall (gd 2 f_order) (fCons (fOp oIx (fVar 4) (fVar 2)) (fCons (fOp oIx (fVar 4) (fVar 3)) fNil))))
  (fSeq (fIfS (fOr (fNot (fTru (fCall (gd 3 f_agrees) (fCons (fCall (gd 1 f_key_of) (fCons (fOp oIx (fVar 4) (fVar 2)) fNil)) (fCons (fCall (gd 1 f_key_of) (fCons (fOp oIx (fVar 4) (fVar 3)) fNil)) (fCons (fVar 6) fNil)))))) (fNot (fTru (fCall (gd 3 f_agrees) (fCons (fCall (gd 1 f_row_order) (fCons (fOp oIx (fVar 4) (fVar 2)) fNil)) (fCons (fCall (gd 1 f_row_order) (fCons (fOp oIx (fVar 4) (fVar 3)) fNil)) (fCons (fVar 6) fNil))))))) (fRet (fC (.bl false))) fNext)
  (fIfS (fBl (fOp oNe (fCall (gd 2 f_is_in) (fCons (fOp oIx (fVar 5) (fVar 3)) (fCons (fCall (gd 1 f_prefix_range) (fCons (fOp oIx (fVar 5) (fVar 2)) fNil)) fNil))) (fOp oEq (fSl false (fOp oIx (fVar 4) (fVar 3)) fNoPart (fPart (fCall oLen (fCons (fOp oIx (fVar 4) (fVar 2)) fNil)))) (fOp oIx (fVar 4) (fVar 2))))) (fRet (fC (.bl false))) fNext)))))) ρ1 m = .nx ρ2 m ∧ LE a0 (ksP R) ρ2 := by
  obtain ⟨o2, o3, o6, o7, o8, o9, o10, o11, o12, o13, rfl⟩ := hρ
  have gr := h.good r (List.mem_of_getElem? hi)
  have l1 := keyB_short gr
  have f1 := h.row hi
  have f3 := ks_ix hi m
  have f6 : f_key_of [rp r] m = .ok (ip (keyB r)) m := key_of_k gr.1 (by omega) m
  have f7 : f_values_of [ip (keyB r)] m = .ok (rp r) m := by rw [values_of_k _ _ (by omega), decode_keyB gr.1]; rfl
  have f8 : f_same 4 [ip (keyB r), ip (keyB r)] m = .ok (.bl true) m := same_refl 3 m (Sm.ip (n := 2) (k := keyB r) (by omega))
  have f9 : f_same 4 [rp r, rp r] m = .ok (.bl true) m := same_refl 3 m (Sm.row (n := 2) (vs := r) (by omega))
  have f12 := prefix_range_k (keyB r) m (by omega)
  have f13 := add3 (k := keyB r) (by omega) m
  have f14 : f_same 4 [.tup [ip (keyB r), ip (keyB r ++ [3])], .tup [ip (keyB r), ip (keyB r ++ [3])]] m = .ok (.bl true) m := same_refl 3 m (.tup (by simp) fun x hx => by
    simp only [List.mem_cons, List.not_mem_nil, or_false] at hx
    rcases hx with rfl | rfl
    · exact Sm.ip (n := 1) (by omega)
    · exact Sm.ip (n := 1) (by simp; omega))
  have f15 := h.rlen
  have le6 := h.le6
  obtain ⟨ρ', m', e, rfl, hρ'⟩ := forG_inv (g := .name 3) (body := (fSeq (fAsg (.name 6) (fCall (gd 2 f_order) (fCons (fOp oIx (fVar 4) (fVar 2)) (fCons (fOp oIx (fVar 4) (fVar 3)) fNil))))
  (fSeq (fIfS (fOr (fNot (fTru (fCall (gd 3 f_agrees) (fCons (fCall (gd 1 f_key_of) (fCons (fOp oIx (fVar 4) (fVar 2)) fNil)) (fCons (fCall (gd 1 f_key_of) (fCons (fOp oIx (fVar 4) (fVar 3)) fNil)) (fCons (fVar 6) fNil)))))) (fNot (fTru (fCall (gd 3 f_agrees) (fCons (fCall (gd 1 f_row_order) (fCons (fOp oIx (fVar 4) (fVar 2)) fNil)) (fCons (fCall (gd 1 f_row_order) (fCons (fOp oIx (fVar 4) (fVar 3)) fNil)) (fCons (fVar 6) fNil))))))) (fRet (fC (.bl false))) fNext)
  (fIfS (fBl (fOp oNe (fCall (gd 2 f_is_in) (fCons (fOp oIx (fVar 5) (fVar 3)) (fCons (fCall (gd 1 f_prefix_range) (fCons (fOp oIx (fVar 5) (fVar 2)) fNil)) fNil))) (fOp oEq (fSl false (fOp oIx (fVar 4) (fVar 3)) fNoPart (fPart (fCall oLen (fCons (fOp oIx (fVar 4) (fVar 2)) fNil)))) (fOp oIx (fVar 4) (fVar 2))))) (fRet (fC (.bl false))) fNext)))) (Inv := fun ρ n => n = m ∧ LE2 a0 (ksP R) i ρ) (xs := rngP 0 R.length) (ρ := [some a0, some (.cell 0), some (.int i), o3, some (.cell 1), some (ksP R), o6, o7, o8, o9, o10, o11, o12, o13]) (m := m) (fun x hx ρ n ⟨hn, hρ⟩ => by
    subst hn
    rw [rngP_eq] at hx
    obtain ⟨j, hj, rfl⟩ := List.mem_map.mp hx
    have hlt : j < R.length := by simpa using List.mem_range'_1.mp hj
    obtain ⟨ρ1, e1, ρ2, e2, h2⟩ := pair_j h a0 hi (List.getElem?_eq_getElem hlt) hρ
    exact ⟨ρ1, e1, ρ2, n, e2, rfl, h2⟩) ⟨rfl, o3, o6, o7, o8, o9, o10, o11, o12, o13, rfl⟩
  obtain ⟨p3, p6, p7, p8, p9, p10, p11, p12, p13, rfl⟩ := hρ'
  refine ⟨_, rfl, _, ?_, some (.int i), p3, p6, p7, p8, p9, p10, p11, p12, p13, rfl⟩
  have k1 : (R.length : Int) ≤ 100000 := by omega
  generalize (fSeq (fAsg (.name 6) (fCall (gd 2 f_order) (fCons (fOp oIx (fVar 4) (fVar 2)) (fCons (fOp oIx (fVar 4) (fVar 3)) fNil))))
  (fSeq (fIfS (fOr (fNot (fTru (fCall (gd 3 f_agrees) (fCons (fCall (gd 1 f_key_of) (fCons (fOp oIx (fVar 4) (fVar 2)) fNil)) (fCons (fCall (gd 1 f_key_of) (fCons (fOp oIx (fVar 4) (fVar 3)) fNil)) (fCons (fVar 6) fNil)))))) (fNot (fTru (fCall (gd 3 f_agrees) (fCons (fCall (gd 1 f_row_order) (fCons (fOp oIx (fVar 4) (fVar 2)) fNil)) (fCons (fCall (gd 1 f_row_order) (fCons (fOp oIx (fVar 4) (fVar 3)) fNil)) (fCons (fVar 6) fNil))))))) (fRet (fC (.bl false))) fNext)
  (fIfS (fBl (fOp oNe (fCall (gd 2 f_is_in) (fCons (fOp oIx (fVar 5) (fVar 3)) (fCons (fCall (gd 1 f_prefix_range) (fCons (fOp oIx (fVar 5) (fVar 2)) fNil)) fNil))) (fOp oEq (fSl false (fOp oIx (fVar 4) (fVar 3)) fNoPart (fPart (fCall oLen (fCons (fOp oIx (fVar 4) (fVar 2)) fNil)))) (fOp oIx (fVar 4) (fVar 2))))) (fRet (fC (.bl false))) fNext))) = lj at e ⊢
  clear h
  generalize P.cell 1 = cl at f1 f15 e ⊢
  simp [mkL_f, mkL_t, wipeP, mulOk, lw_l, lw_c, lv_l, lv_c, lv_x, sv_l, sv_c, sv_x, sv_t, lw_i, lw_s, lw_t, lv_s, lv_t, lv_i, lv_n, add_ii, add_ss, add_tt, add_ll, add_lc, add_cl, add_cc, sub_ii, plus_ii, mul_ii, mul_li, fdv_ii, mod_ii, pow_ii, neg_i, sh_i, sh_s, sh_t, sh_l, sh_n, sh_b, sh_c, eq_nn, ne_nn, eq_ni, ne_ni, eq_in, ne_in, eq_nb, ne_nb, eq_bn, ne_bn, eq_ns, ne_ns, eq_sn, ne_sn, eq_ii, ne_ii, eq_bb, ne_bb, eq_ss, ne_ss, eq_is, ne_is, eq_si, ne_si, eq_bs, ne_bs, eq_sb, ne_sb, isn_n, non_n, isn_i, non_i, isn_b, non_b, isn_s, non_s, isn_t, non_t, isn_l, non_l, isn_c, non_c, isn_x, non_x, tru_n, tru_b, tru_i, tru_t, tru_l, notv_b, ix_t, ix_s, ix_l, ix_x, ix_c, ixl_c, sl_t, sl_s, sl_l, sl_c, rev_l, rev_c, len_t, len_l, len_x, len_s, len_c, list_t, list_l, list_x, list_c, tuple_t, tuple_l, tuple_c, int_i, int_b, abs_i, ord_s, isi_n, isi_b, isi_i, isi_s, isi_t, isi_l, isi_c, kindc, max_ii, min_ii, app_c, ext_c, set_c, sidx_ss, cm_ii, cm_ile, cm_igt, cm_ige, isl_l, isl_c, isl_s, iss_s, iss_l, b_ok, b_st, b_ex, o_ok, o_st, o_ex, c_ok, c_st, c_ex, fin_rt, fin_nx, fin_st, nx_nx, nx_rt, nx_bk, nx_ct, nx_ex, nx_st, e_seq, e_var, e_c, e_op, e_un, e_nil, e_cons, e_call, e_tup, e_lst, e_otup, e_olst, e_gd, e_asg, e_drop, e_ret, e_retN, e_next, e_brk, e_cont, e_ifs, e_setS, e_aug, e_augS, e_tru, e_bl, e_and, e_or, e_not, e_andV, e_orV, e_notV, e_if, e_chain, e_nop, e_part, e_sl, e_iSeq, e_iR1, e_iR2, rngOk_of, rngOk2_of, e_for, e_lc, e_yes, e_mt, e_mt2, e_join, e_put, e_fits, Tg.put, TgL.puts, f1, f3, f6, f7, f8, f9, f12, f13, f14, f15, k1, e]

end
/-! K11 -/
section
open PySem PySem.Spec PyProof.Rows
/-! ### strange keys -/
def LE7 (a0 ks : P) (T : List (List Int)) (ρ : Env) : Prop := ∃ o2 o3 o6 o8 o9 o10 o11 o12 o13, ρ = [some a0, some (.cell 0), o2, o3, some (.cell 1), some ks, o6, some (.lst (T.map ip)), o8, o9, o10, o11, o12, o13]
theorem byte_draw {m m0 : M} (L : Int) (hL : 0 < L ∧ L ≤ 256) (s : Stp 0 m0 m) {ρ : Env} (h1 : ρ[1]? = some (some (.cell 0))) : ∃ b m', (fOp oIx (fLst false (fCons (fCall (gd 2 f_next) (fCons (fVar 1) (fCons (fC (.int 256)) fNil))) (fCons (fCall (gd 2 f_next) (fCons (fVar 1) (fCons (fC (.int L)) fNil))) fNil))) (fCall (gd 2 f_next) (fCons (fVar 1) (fCons (fC (.int 2)) fNil)))) ρ m = .ok (.int b) m' ∧ Stp 0 m0 m' := by
  obtain ⟨r, m1, e1, a1, b1, s1⟩ := draw 256 s (by omega)
  obtain ⟨r2, m2, e2, a2, b2, s2⟩ := draw L s1 (by omega)
  obtain ⟨r3, m3, e3, a3, b3, s3⟩ := draw 2 s2 (by omega)
  have hr : r3 = 0 ∨ r3 = 1 := by omega
  rcases hr with rfl | rfl
  · exact ⟨r, m3, by simp [mkL_f, mkL_t, wipeP, mulOk, lw_l, lw_c, lv_l, lv_c, lv_x, sv_l, sv_c, sv_x, sv_t, lw_i, lw_s, lw_t, lv_s, lv_t, lv_i, lv_n, add_ii, add_ss, add_tt, add_ll, add_lc, add_cl, add_cc, sub_ii, plus_ii, mul_ii, mul_li, fdv_ii, mod_ii, pow_ii, neg_i, sh_i, sh_s, sh_t, sh_l, sh_n, sh_b, sh_c, eq_nn, ne_nn, eq_ni, ne_ni, eq_in, ne_in, eq_nb, ne_nb, eq_bn, ne_bn, eq_ns, ne_ns, eq_sn, ne_sn, eq_ii, ne_ii, eq_bb, ne_bb, eq_ss, ne_ss, eq_is, ne_is, eq_si, ne_si, eq_bs, ne_bs, eq_sb, ne_sb, isn_n, non_n, isn_i, non_i, isn_b, non_b, isn_s, non_s, isn_t, non_t, isn_l, non_l, isn_c, non_c, isn_x, non_x, tru_n, tru_b, tru_i, tru_t, tru_l, notv_b, ix_t, ix_s, ix_l, ix_x, ix_c, ixl_c, sl_t, sl_s, sl_l, sl_c, rev_l, rev_c, len_t, len_l, len_x, len_s, len_c, list_t, list_l, list_x, list_c, tuple_t, tuple_l, tuple_c, int_i, int_b, abs_i, ord_s, isi_n, isi_b, isi_i, isi_s, isi_t, isi_l, isi_c, kindc, max_ii, min_ii, app_c, ext_c, set_c, sidx_ss, cm_ii, cm_ile, cm_igt, cm_ige, isl_l, isl_c, isl_s, iss_s, iss_l, b_ok, b_st, b_ex, o_ok, o_st, o_ex, c_ok, c_st, c_ex, fin_rt, fin_nx, fin_st, nx_nx, nx_rt, nx_bk, nx_ct, nx_ex, nx_st, e_seq, e_var, e_c, e_op, e_un, e_nil, e_cons, e_call, e_tup, e_lst, e_otup, e_olst, e_gd, e_asg, e_drop, e_ret, e_retN, e_next, e_brk, e_cont, e_ifs, e_setS, e_aug, e_augS, e_tru, e_bl, e_and, e_or, e_not, e_andV, e_orV, e_notV, e_if, e_chain, e_nop, e_part, e_sl, e_iSeq, e_iR1, e_iR2, rngOk_of, rngOk2_of, e_for, e_lc, e_yes, e_mt, e_mt2, e_join, e_put, e_fits, Tg.put, TgL.puts, h1, e1, e2, e3, atI_0], s3⟩
  · exact ⟨r2, m3, by simp [mkL_f, mkL_t, wipeP, mulOk, lw_l, lw_c, lv_l, lv_c, lv_x, sv_l, sv_c, sv_x, sv_t, lw_i, lw_s, lw_t, lv_s, lv_t, lv_i, lv_n, add_ii, add_ss, add_tt, add_ll, add_lc, add_cl, add_cc, sub_ii, plus_ii, mul_ii, mul_li, fdv_ii, mod_ii, pow_ii, neg_i, sh_i, sh_s, sh_t, sh_l, sh_n, sh_b, sh_c, eq_nn, ne_nn, eq_ni, ne_ni, eq_in, ne_in, eq_nb, ne_nb, eq_bn, ne_bn, eq_ns, ne_ns, eq_sn, ne_sn, eq_ii, ne_ii, eq_bb, ne_bb, eq_ss, ne_ss, eq_is, ne_is, eq_si, ne_si, eq_bs, ne_bs, eq_sb, ne_sb, isn_n, non_n, isn_i, non_i, isn_b, non_b, isn_s, non_s, isn_t, non_t, isn_l, non_l, isn_c, non_c, isn_x, non_x, tru_n, tru_b, tru_i, tru_t, tru_l, notv_b, ix_t, ix_s, ix_l, ix_x, ix_c, ixl_c, sl_t, sl_s, sl_l, sl_c, rev_l, rev_c, len_t, len_l, len_x, len_s, len_c, list_t, list_l, list_x, list_c, tuple_t, tuple_l, tuple_c, int_i, int_b, abs_i, ord_s, isi_n, isi_b, isi_i, isi_s, isi_t, isi_l, isi_c, kindc, max_ii, min_ii, app_c, ext_c, set_c, sidx_ss, cm_ii, cm_ile, cm_igt, cm_ige, isl_l, isl_c, isl_s, iss_s, iss_l, b_ok, b_st, b_ex, o_ok, o_st, o_ex, c_ok, c_st, c_ex, fin_rt, fin_nx, fin_st, nx_nx, nx_rt, nx_bk, nx_ct, nx_ex, nx_st, e_seq, e_var, e_c, e_op, e_un, e_nil, e_cons, e_call, e_tup, e_lst, e_otup, e_olst, e_gd, e_asg, e_drop, e_ret, e_retN, e_next, e_brk, e_cont, e_ifs, e_setS, e_aug, e_augS, e_tru, e_bl, e_and, e_or, e_not, e_andV, e_orV, e_notV, e_if, e_chain, e_nop, e_part, e_sl, e_iSeq, e_iR1, e_iR2, rngOk_of, rngOk2_of, e_for, e_lc, e_yes, e_mt, e_mt2, e_join, e_put, e_fits, Tg.put, TgL.puts, h1, e1, e2, e3, atI_1], s3⟩
theorem drawn_k {m m0 : M} (s : Stp 0 m0 m) {ρ : Env} (h1 : ρ[1]? = some (some (.cell 0))) (h3 : (wipeP ρ [3])[1]? = some (some (.cell 0))) : ∃ D m', (fAsg (.name 11) (fCall oTuple (fCons (fLc false (iR1 (fCons (fCall (gd 2 f_next) (fCons (fVar 1) (fCons (fC (.int 9)) fNil))) fNil)) (.name 3) fYes (fOp oIx (fLst false (fCons (fCall (gd 2 f_next) (fCons (fVar 1) (fCons (fC (.int 256)) fNil))) (fCons (fCall (gd 2 f_next) (fCons (fVar 1) (fCons (fC (.int 3)) fNil))) fNil))) (fCall (gd 2 f_next) (fCons (fVar 1) (fCons (fC (.int 2)) fNil)))) [3]) fNil))) ρ m = .nx (ρ.set 11 (some (ip D))) m' ∧ D.length ≤ 8 ∧ Stp 0 m0 m' := by
  obtain ⟨r, m1, e1, a1, b1, s1⟩ := draw 9 s (by omega)
  obtain ⟨ys, m2, e2, l2, p2, s2⟩ := lcG_ex (i := 3) (te := (fOp oIx (fLst false (fCons (fCall (gd 2 f_next) (fCons (fVar 1) (fCons (fC (.int 256)) fNil))) (fCons (fCall (gd 2 f_next) (fCons (fVar 1) (fCons (fC (.int 3)) fNil))) fNil))) (fCall (gd 2 f_next) (fCons (fVar 1) (fCons (fC (.int 2)) fNil))))) (xs := rngP 0 r.toNat) (ρ := wipeP ρ [3]) (Inv := Stp 0 m0) (Py := fun y => ∃ b : Int, True ∧ y = .int b) (fun x _ n hn => by
    obtain ⟨b, n', e, st⟩ := byte_draw 3 (by omega) hn (ρ := (wipeP ρ [3]).set 3 (some x)) (by rw [List.getElem?_set_ne (by decide)]; exact h3)
    exact ⟨.int b, n', e, ⟨b, trivial, rfl⟩, st⟩) s1
  obtain ⟨D, rfl, _⟩ := all_map (Q := fun _ : Int => True) (f := P.int) p2
  have hlen : D.length = r.toNat := by simpa [rngP] using l2
  refine ⟨D, m2, ?_, by omega, s2⟩
  have k0 : (rngP 0 r.toNat).length ≤ 100000 := by simp [rngP]; omega
  have k1 : r ≤ 100000 := by omega
  generalize (fOp oIx (fLst false (fCons (fCall (gd 2 f_next) (fCons (fVar 1) (fCons (fC (.int 256)) fNil))) (fCons (fCall (gd 2 f_next) (fCons (fVar 1) (fCons (fC (.int 3)) fNil))) fNil))) (fCall (gd 2 f_next) (fCons (fVar 1) (fCons (fC (.int 2)) fNil)))) = te at e2 ⊢
  simp only [wipeP] at e2
  simp [mkL_f, mkL_t, wipeP, mulOk, lw_l, lw_c, lv_l, lv_c, lv_x, sv_l, sv_c, sv_x, sv_t, lw_i, lw_s, lw_t, lv_s, lv_t, lv_i, lv_n, add_ii, add_ss, add_tt, add_ll, add_lc, add_cl, add_cc, sub_ii, plus_ii, mul_ii, mul_li, fdv_ii, mod_ii, pow_ii, neg_i, sh_i, sh_s, sh_t, sh_l, sh_n, sh_b, sh_c, eq_nn, ne_nn, eq_ni, ne_ni, eq_in, ne_in, eq_nb, ne_nb, eq_bn, ne_bn, eq_ns, ne_ns, eq_sn, ne_sn, eq_ii, ne_ii, eq_bb, ne_bb, eq_ss, ne_ss, eq_is, ne_is, eq_si, ne_si, eq_bs, ne_bs, eq_sb, ne_sb, isn_n, non_n, isn_i, non_i, isn_b, non_b, isn_s, non_s, isn_t, non_t, isn_l, non_l, isn_c, non_c, isn_x, non_x, tru_n, tru_b, tru_i, tru_t, tru_l, notv_b, ix_t, ix_s, ix_l, ix_x, ix_c, ixl_c, sl_t, sl_s, sl_l, sl_c, rev_l, rev_c, len_t, len_l, len_x, len_s, len_c, list_t, list_l, list_x, list_c, tuple_t, tuple_l, tuple_c, int_i, int_b, abs_i, ord_s, isi_n, isi_b, isi_i, isi_s, isi_t, isi_l, isi_c, kindc, max_ii, min_ii, app_c, ext_c, set_c, sidx_ss, cm_ii, cm_ile, cm_igt, cm_ige, isl_l, isl_c, isl_s, iss_s, iss_l, b_ok, b_st, b_ex, o_ok, o_st, o_ex, c_ok, c_st, c_ex, fin_rt, fin_nx, fin_st, nx_nx, nx_rt, nx_bk, nx_ct, nx_ex, nx_st, e_seq, e_var, e_c, e_op, e_un, e_nil, e_cons, e_call, e_tup, e_lst, e_otup, e_olst, e_gd, e_asg, e_drop, e_ret, e_retN, e_next, e_brk, e_cont, e_ifs, e_setS, e_aug, e_augS, e_tru, e_bl, e_and, e_or, e_not, e_andV, e_orV, e_notV, e_if, e_chain, e_nop, e_part, e_sl, e_iSeq, e_iR1, e_iR2, rngOk_of, rngOk2_of, e_for, e_lc, e_yes, e_mt, e_mt2, e_join, e_put, e_fits, Tg.put, TgL.puts, h1, e1, a1, k1, k0, e2, ip]
theorem other_k {K : List Int} (hK : K.length ≤ 1000) {ρ : Env} {m : M} (h : ρ[12]? = some (some (ip K))) : (fIfS (fNot (fTru (fCall (gd 2 (f_same 4)) (fCons (fCall (gd 1 f_values_of) (fCons (fVar 12) fNil)) (fCons (fCall (gd 1 f_read) (fCons (fVar 12) fNil)) fNil))))) (fRet (fC (.bl false))) fNext) ρ m = .nx ρ m := by
  have f1 := values_of_k K m (by omega)
  have f2 := read_k K m (by omega)
  have f3 : f_same 4 [optP rp (decode K), optP rp (decode K)] m = .ok (.bl true) m := same_refl 3 m (sm_dec (by omega))
  have e : (fun vs : List Kv => P.tup (vs.map kp)) = rp := rfl
  rw [e] at f1
  simp [mkL_f, mkL_t, wipeP, mulOk, lw_l, lw_c, lv_l, lv_c, lv_x, sv_l, sv_c, sv_x, sv_t, lw_i, lw_s, lw_t, lv_s, lv_t, lv_i, lv_n, add_ii, add_ss, add_tt, add_ll, add_lc, add_cl, add_cc, sub_ii, plus_ii, mul_ii, mul_li, fdv_ii, mod_ii, pow_ii, neg_i, sh_i, sh_s, sh_t, sh_l, sh_n, sh_b, sh_c, eq_nn, ne_nn, eq_ni, ne_ni, eq_in, ne_in, eq_nb, ne_nb, eq_bn, ne_bn, eq_ns, ne_ns, eq_sn, ne_sn, eq_ii, ne_ii, eq_bb, ne_bb, eq_ss, ne_ss, eq_is, ne_is, eq_si, ne_si, eq_bs, ne_bs, eq_sb, ne_sb, isn_n, non_n, isn_i, non_i, isn_b, non_b, isn_s, non_s, isn_t, non_t, isn_l, non_l, isn_c, non_c, isn_x, non_x, tru_n, tru_b, tru_i, tru_t, tru_l, notv_b, ix_t, ix_s, ix_l, ix_x, ix_c, ixl_c, sl_t, sl_s, sl_l, sl_c, rev_l, rev_c, len_t, len_l, len_x, len_s, len_c, list_t, list_l, list_x, list_c, tuple_t, tuple_l, tuple_c, int_i, int_b, abs_i, ord_s, isi_n, isi_b, isi_i, isi_s, isi_t, isi_l, isi_c, kindc, max_ii, min_ii, app_c, ext_c, set_c, sidx_ss, cm_ii, cm_ile, cm_igt, cm_ige, isl_l, isl_c, isl_s, iss_s, iss_l, b_ok, b_st, b_ex, o_ok, o_st, o_ex, c_ok, c_st, c_ex, fin_rt, fin_nx, fin_st, nx_nx, nx_rt, nx_bk, nx_ct, nx_ex, nx_st, e_seq, e_var, e_c, e_op, e_un, e_nil, e_cons, e_call, e_tup, e_lst, e_otup, e_olst, e_gd, e_asg, e_drop, e_ret, e_retN, e_next, e_brk, e_cont, e_ifs, e_setS, e_aug, e_augS, e_tru, e_bl, e_and, e_or, e_not, e_andV, e_orV, e_notV, e_if, e_chain, e_nop, e_part, e_sl, e_iSeq, e_iR1, e_iR2, rngOk_of, rngOk2_of, e_for, e_lc, e_yes, e_mt, e_mt2, e_join, e_put, e_fits, Tg.put, TgL.puts, h, f1, f2, f3]
theorem list_ip (K : List Int) (m : M) : oList false [ip K] m = .ok (.lst (K.map .int)) m := rfl
theorem add_li (a b : List Int) (h : a.length + b.length ≤ 100000) (m : M) : oAdd false (.lst (a.map .int)) (.lst (b.map .int)) m = .ok (.lst ((a ++ b).map .int)) m := by
  rw [add_ll, List.map_append, if_pos]
  · rfl
  · exact decide_eq_true (by simpa using h)
theorem sl_lto (a : List Int) (n : Nat) (m : M) : oSl false (.lst (a.map .int)) none (some (n : Int)) m = .ok (.lst ((a.take n).map .int)) m := by
  rw [sl_l, cut_to, List.map_take]; rfl
theorem sl_lfr (a : List Int) (n : Nat) (m : M) : oSl false (.lst (a.map .int)) (some (n : Int)) none m = .ok (.lst ((a.drop n).map .int)) m := by
  rw [sl_l, cut_from, List.map_drop]; rfl
theorem turn6 {m m0 : M} {R : List (List Kv)} (h : Rows m R) (hne : R ≠ []) (s : Stp 0 m0 m) (a0 : P) (i : P) (T : List (List Int)) (hT : T.length ≤ 50 ∧ ∀ t ∈ T, ShortK t) {ρ : Env} (hρ : LE7 a0 (ksP R) T ρ) : ∃ ρ1, (Tg.name 2).put i ρ = some ρ1 ∧ ∃ ρ2 m' T', (fSeq (fAsg (.name 8) (fCall (oList false) (fCons (fOp oIx (fVar 5) (fCall (gd 2 f_next) (fCons (fVar 1) (fCons (fCall oLen (fCons (fVar 5) fNil)) fNil)))) fNil)))
  (fSeq (fAsg (.name 9) (fCall (gd 2 f_next) (fCons (fVar 1) (fCons (fOp (oAdd false) (fCall oLen (fCons (fVar 8) fNil)) (fC (.int 1))) fNil))))
  (fSeq (fAsg (.name 10) (fOp oIx (fLst false (fCons (fCall (gd 2 f_next) (fCons (fVar 1) (fCons (fC (.int 256)) fNil))) (fCons (fCall (gd 2 f_next) (fCons (fVar 1) (fCons (fC (.int 4)) fNil))) fNil))) (fCall (gd 2 f_next) (fCons (fVar 1) (fCons (fC (.int 2)) fNil)))))
  (fSeq (fAsg (.name 11) (fCall oTuple (fCons (fLc false (iR1 (fCons (fCall (gd 2 f_next) (fCons (fVar 1) (fCons (fC (.int 9)) fNil))) fNil)) (.name 3) fYes (fOp oIx (fLst false (fCons (fCall (gd 2 f_next) (fCons (fVar 1) (fCons (fC (.int 256)) fNil))) (fCons (fCall (gd 2 f_next) (fCons (fVar 1) (fCons (fC (.int 3)) fNil))) fNil))) (fCall (gd 2 f_next) (fCons (fVar 1) (fCons (fC (.int 2)) fNil)))) [3]) fNil)))
  (fSeq (fFor (iSeq (fLst false (fCons (fCall oTuple (fCons (fOp (oAdd false) (fOp (oAdd false) (fSl false (fVar 8) fNoPart (fPart (fVar 9))) (fLst false (fCons (fVar 10) fNil))) (fSl false (fVar 8) (fPart (fOp (oAdd false) (fVar 9) (fC (.int 1)))) fNoPart)) fNil)) (fCons (fCall oTuple (fCons (fOp (oAdd false) (fOp (oAdd false) (fSl false (fVar 8) fNoPart (fPart (fVar 9))) (fLst false (fCons (fVar 10) fNil))) (fSl false (fVar 8) (fPart (fVar 9)) fNoPart)) fNil)) (fCons (fCall oTuple (fCons (fSl false (fVar 8) fNoPart (fPart (fVar 9))) fNil)) (fCons (fVar 11) fNil)))))) (.name 12) (fIfS (fNot (fTru (fCall (gd 2 (f_same 4)) (fCons (fCall (gd 1 f_values_of) (fCons (fVar 12) fNil)) (fCons (fCall (gd 1 f_read) (fCons (fVar 12) fNil)) fNil))))) (fRet (fC (.bl false))) fNext))
  (fAsg (.name 7) (fOp (oAdd false) (fVar 7) (fLst false (fCons (fVar 11) (fCons (fCall oTuple (fCons (fOp (oAdd false) (fOp (oAdd false) (fSl false (fVar 8) fNoPart (fPart (fVar 9))) (fLst false (fCons (fVar 10) fNil))) (fSl false (fVar 8) (fPart (fVar 9)) fNoPart)) fNil)) fNil)))))))))) ρ1 m = .nx ρ2 m' ∧ LE7 a0 (ksP R) T' ρ2 ∧ T'.length = T.length + 2 ∧ (∀ t ∈ T', ShortK t) ∧ Stp 0 m0 m' := by
  obtain ⟨o2, o3, o6, o8, o9, o10, o11, o12, o13, rfl⟩ := hρ
  have hpos : 0 < R.length := List.length_pos_iff.mpr hne
  have le6 := h.le6
  obtain ⟨r, m1, e1, a1, b1, s1⟩ := draw (R.length : Int) s (by omega)
  obtain ⟨q, rfl⟩ : ∃ q : Nat, r = (q : Int) := ⟨r.toNat, by omega⟩
  have hq : R[q]? = some R[q] := List.getElem?_eq_getElem (by omega)
  generalize R[q] = row at hq
  have gr := h.good row (List.mem_of_getElem? hq)
  have lk := keyB_short gr
  obtain ⟨at_, m2, e2, a2, b2, s2⟩ := draw (((keyB row).length : Int) + 1) s1 (by omega)
  obtain ⟨p, rfl⟩ : ∃ p : Nat, at_ = (p : Int) := ⟨at_.toNat, by omega⟩
  have hks : ∀ n, oIx (ksP R) (.int (q : Int)) n = .ok (ip (keyB row)) n := fun n => ks_ix hq n
  have hkl : ∀ n, oLen [ksP R] n = .ok (.int (R.length : Int)) n := fun n => by unfold ksP; rw [len_l, List.length_map]
  generalize keyB row = K at lk e2 b2 hks
  generalize ksP R = ks at hks hkl ⊢
  obtain ⟨b, m3, e3, s3⟩ := byte_draw 4 (by omega) s2 (ρ := [some a0, some (.cell 0), some i, o3, some (.cell 1), some ks, o6, some (.lst (T.map ip)), some (.lst (K.map .int)), some (.int p), o10, o11, o12, o13]) rfl
  obtain ⟨D, m4, e4, lD, s4⟩ := drawn_k s3 (ρ := [some a0, some (.cell 0), some i, o3, some (.cell 1), some ks, o6, some (.lst (T.map ip)), some (.lst (K.map .int)), some (.int p), some (.int b), o11, o12, o13]) rfl rfl
  simp only [List.set_cons_succ, List.set_cons_zero] at e4
  -- the four others
  have c1 : ∀ n, oSl false (.lst (K.map .int)) none (some (p : Int)) n = .ok (.lst ((K.take p).map .int)) n := fun n => sl_lto K p n
  have c2 : ∀ n, oSl false (.lst (K.map .int)) (some ((p : Int) + 1)) none n = .ok (.lst ((K.drop (p + 1)).map .int)) n := fun n => by
    have := sl_lfr K (p + 1) n
    rwa [show ((p + 1 : Nat) : Int) = (p : Int) + 1 by omega] at this
  have c3 : ∀ n, oSl false (.lst (K.map .int)) (some (p : Int)) none n = .ok (.lst ((K.drop p).map .int)) n := fun n => sl_lfr K p n
  have lt : (K.take p).length ≤ K.length := by rw [List.length_take]; omega
  have ld : (K.drop p).length ≤ K.length := by rw [List.length_drop]; omega
  have ld1 : (K.drop (p + 1)).length ≤ K.length := by rw [List.length_drop]; omega
  generalize K.take p = A at c1 lt
  generalize K.drop (p + 1) = B at c2 ld1
  generalize K.drop p = C at c3 ld
  have d1 : ∀ n, oAdd false (.lst (A.map .int)) (.lst [.int b]) n = .ok (.lst ((A ++ [b]).map .int)) n := fun n => add_li A [b] (by simp; omega) n
  have d2 : ∀ n, oAdd false (.lst ((A ++ [b]).map .int)) (.lst (B.map .int)) n = .ok (.lst ((A ++ [b] ++ B).map .int)) n := fun n => add_li _ _ (by simp; omega) n
  have d3 : ∀ n, oAdd false (.lst ((A ++ [b]).map .int)) (.lst (C.map .int)) n = .ok (.lst ((A ++ [b] ++ C).map .int)) n := fun n => add_li _ _ (by simp; omega) n
  have l1 : (A ++ [b] ++ B).length ≤ 1000 := by simp; omega
  have l2 : (A ++ [b] ++ C).length ≤ 1000 := by simp; omega
  have tl : ∀ (l : List Int) n, oTuple [.lst (l.map .int)] n = .ok (ip l) n := fun l n => rfl
  generalize A ++ [b] ++ B = X1 at d2 l1
  generalize A ++ [b] ++ C = X2 at d3 l2
  generalize hA1 : A ++ [b] = A1 at d1 d2 d3
  have lA : A.length ≤ 1000 := by omega
  have t1 := fun o12 : Unit => other_k l1 (ρ := [some a0, some (.cell 0), some i, o3, some (.cell 1), some ks, o6, some (.lst (T.map ip)), some (.lst (K.map .int)), some (.int p), some (.int b), some (ip D), some (ip X1), o13]) (m := m4) rfl
  have t2 := fun o12 : Unit => other_k l2 (ρ := [some a0, some (.cell 0), some i, o3, some (.cell 1), some ks, o6, some (.lst (T.map ip)), some (.lst (K.map .int)), some (.int p), some (.int b), some (ip D), some (ip X2), o13]) (m := m4) rfl
  have t3 := fun o12 : Unit => other_k lA (ρ := [some a0, some (.cell 0), some i, o3, some (.cell 1), some ks, o6, some (.lst (T.map ip)), some (.lst (K.map .int)), some (.int p), some (.int b), some (ip D), some (ip A), o13]) (m := m4) rfl
  have t4 := fun o12 : Unit => other_k (K := D) (by omega) (ρ := [some a0, some (.cell 0), some i, o3, some (.cell 1), some ks, o6, some (.lst (T.map ip)), some (.lst (K.map .int)), some (.int p), some (.int b), some (ip D), some (ip D), o13]) (m := m4) rfl
  have t1' := t1 ()
  have t2' := t2 ()
  have t3' := t3 ()
  have t4' := t4 ()
  clear t1 t2 t3 t4
  have hT1 := hT.1
  have dT : ∀ n, oAdd false (.lst (T.map ip)) (.lst [ip D, ip X2]) n = .ok (.lst ((T ++ [D, X2]).map ip)) n := fun n => by
    rw [add_ll, List.map_append, if_pos]
    · rfl
    · exact decide_eq_true (by simp; omega)
  refine ⟨_, rfl, _, m4, T ++ [D, X2], ?_, ⟨some i, o3, o6, some (.lst (K.map .int)), some (.int p), some (.int b), some (ip D), some (ip D), o13, rfl⟩, by simp, fun t ht => ?_, s4⟩
  · simp only [List.set_cons_succ, List.set_cons_zero]
    generalize (fOp oIx (fLst false (fCons (fCall (gd 2 f_next) (fCons (fVar 1) (fCons (fC (.int 256)) fNil))) (fCons (fCall (gd 2 f_next) (fCons (fVar 1) (fCons (fC (.int 4)) fNil))) fNil))) (fCall (gd 2 f_next) (fCons (fVar 1) (fCons (fC (.int 2)) fNil)))) = byte at e3 ⊢
    generalize (fAsg (.name 11) (fCall oTuple (fCons (fLc false (iR1 (fCons (fCall (gd 2 f_next) (fCons (fVar 1) (fCons (fC (.int 9)) fNil))) fNil)) (.name 3) fYes (fOp oIx (fLst false (fCons (fCall (gd 2 f_next) (fCons (fVar 1) (fCons (fC (.int 256)) fNil))) (fCons (fCall (gd 2 f_next) (fCons (fVar 1) (fCons (fC (.int 3)) fNil))) fNil))) (fCall (gd 2 f_next) (fCons (fVar 1) (fCons (fC (.int 2)) fNil)))) [3]) fNil))) = drawn at e4 ⊢
    generalize (fIfS (fNot (fTru (fCall (gd 2 (f_same 4)) (fCons (fCall (gd 1 f_values_of) (fCons (fVar 12) fNil)) (fCons (fCall (gd 1 f_read) (fCons (fVar 12) fNil)) fNil))))) (fRet (fC (.bl false))) fNext) = other at t1' t2' t3' t4' ⊢
    have li : ∀ n, oList false [ip K] n = .ok (.lst (K.map .int)) n := fun n => rfl
    have ll : ∀ n, oLen [.lst (K.map .int)] n = .ok (.int (K.length : Int)) n := fun n => by rw [len_l, List.length_map]
    simp [mkL_f, mkL_t, wipeP, mulOk, lw_l, lw_c, lv_l, lv_c, lv_x, sv_l, sv_c, sv_x, sv_t, lw_i, lw_s, lw_t, lv_s, lv_t, lv_i, lv_n, add_ii, add_ss, add_tt, add_ll, add_lc, add_cl, add_cc, sub_ii, plus_ii, mul_ii, mul_li, fdv_ii, mod_ii, pow_ii, neg_i, sh_i, sh_s, sh_t, sh_l, sh_n, sh_b, sh_c, eq_nn, ne_nn, eq_ni, ne_ni, eq_in, ne_in, eq_nb, ne_nb, eq_bn, ne_bn, eq_ns, ne_ns, eq_sn, ne_sn, eq_ii, ne_ii, eq_bb, ne_bb, eq_ss, ne_ss, eq_is, ne_is, eq_si, ne_si, eq_bs, ne_bs, eq_sb, ne_sb, isn_n, non_n, isn_i, non_i, isn_b, non_b, isn_s, non_s, isn_t, non_t, isn_l, non_l, isn_c, non_c, isn_x, non_x, tru_n, tru_b, tru_i, tru_t, tru_l, notv_b, ix_t, ix_s, ix_l, ix_x, ix_c, ixl_c, sl_t, sl_s, sl_l, sl_c, rev_l, rev_c, len_t, len_l, len_x, len_s, len_c, list_t, list_l, list_x, list_c, tuple_t, tuple_l, tuple_c, int_i, int_b, abs_i, ord_s, isi_n, isi_b, isi_i, isi_s, isi_t, isi_l, isi_c, kindc, max_ii, min_ii, app_c, ext_c, set_c, sidx_ss, cm_ii, cm_ile, cm_igt, cm_ige, isl_l, isl_c, isl_s, iss_s, iss_l, b_ok, b_st, b_ex, o_ok, o_st, o_ex, c_ok, c_st, c_ex, fin_rt, fin_nx, fin_st, nx_nx, nx_rt, nx_bk, nx_ct, nx_ex, nx_st, e_seq, e_var, e_c, e_op, e_un, e_nil, e_cons, e_call, e_tup, e_lst, e_otup, e_olst, e_gd, e_asg, e_drop, e_ret, e_retN, e_next, e_brk, e_cont, e_ifs, e_setS, e_aug, e_augS, e_tru, e_bl, e_and, e_or, e_not, e_andV, e_orV, e_notV, e_if, e_chain, e_nop, e_part, e_sl, e_iSeq, e_iR1, e_iR2, rngOk_of, rngOk2_of, e_for, e_lc, e_yes, e_mt, e_mt2, e_join, e_put, e_fits, Tg.put, TgL.puts, hkl, e1, hks, li, ll, e2, e3, e4, c1, c2, c3, d1, d2, d3, tl, forG_cons, forG_nil, t1', t2', t3', t4', dT]
  · rcases List.mem_append.mp ht with z | z
    · exact hT.2 t z
    · simp only [List.mem_cons, List.not_mem_nil, or_false] at z
      rcases z with rfl | rfl
      · unfold ShortK; omega
      · exact l2

end
/-! K12 -/
section
open PySem PySem.Spec PyProof.Rows
theorem loop6_k {m0 : M} {R : List (List Kv)} (hne : R ≠ []) (a0 : P) : ∀ (xs : List P) (T : List (List Int)) (m : M) (ρ : Env), Rows m R → Stp 0 m0 m → T.length + 2 * xs.length ≤ 50 → (∀ t ∈ T, ShortK t) → LE7 a0 (ksP R) T ρ → ∃ ρ' m' T', forG (.name 2) (fSeq (fAsg (.name 8) (fCall (oList false) (fCons (fOp oIx (fVar 5) (fCall (gd 2 f_next) (fCons (fVar 1) (fCons (fCall oLen (fCons (fVar 5) fNil)) fNil)))) fNil)))
  (fSeq (fAsg (.name 9) (fCall (gd 2 f_next) (fCons (fVar 1) (fCons (fOp (oAdd false) (fCall oLen (fCons (fVar 8) fNil)) (fC (.int 1))) fNil))))
  (fSeq (fAsg (.name 10) (fOp oIx (fLst false (fCons (fCall (gd 2 f_next) (fCons (fVar 1) (fCons (fC (.int 256)) fNil))) (fCons (fCall (gd 2 f_next) (fCons (fVar 1) (fCons (fC (.int 4)) fNil))) fNil))) (fCall (gd 2 f_next) (fCons (fVar 1) (fCons (fC (.int 2)) fNil)))))
  (fSeq (fAsg (.name 11) (fCall oTuple (fCons (fLc false (iR1 (fCons (fCall (gd 2 f_next) (fCons (fVar 1) (fCons (fC (.int 9)) fNil))) fNil)) (.name 3) fYes (fOp oIx (fLst false (fCons (fCall (gd 2 f_next) (fCons (fVar 1) (fCons (fC (.int 256)) fNil))) (fCons (fCall (gd 2 f_next) (fCons (fVar 1) (fCons (fC (.int 3)) fNil))) fNil))) (fCall (gd 2 f_next) (fCons (fVar 1) (fCons (fC (.int 2)) fNil)))) [3]) fNil)))
  (fSeq (fFor (iSeq (fLst false (fCons (fCall oTuple (fCons (fOp (oAdd false) (fOp (oAdd false) (fSl false (fVar 8) fNoPart (fPart (fVar 9))) (fLst false (fCons (fVar 10) fNil))) (fSl false (fVar 8) (fPart (fOp (oAdd false) (fVar 9) (fC (.int 1)))) fNoPart)) fNil)) (fCons (fCall oTuple (fCons (fOp (oAdd false) (fOp (oAdd false) (fSl false (fVar 8) fNoPart (fPart (fVar 9))) (fLst false (fCons (fVar 10) fNil))) (fSl false (fVar 8) (fPart (fVar 9)) fNoPart)) fNil)) (fCons (fCall oTuple (fCons (fSl false (fVar 8) fNoPart (fPart (fVar 9))) fNil)) (fCons (fVar 11) fNil)))))) (.name 12) (fIfS (fNot (fTru (fCall (gd 2 (f_same 4)) (fCons (fCall (gd 1 f_values_of) (fCons (fVar 12) fNil)) (fCons (fCall (gd 1 f_read) (fCons (fVar 12) fNil)) fNil))))) (fRet (fC (.bl false))) fNext))
  (fAsg (.name 7) (fOp (oAdd false) (fVar 7) (fLst false (fCons (fVar 11) (fCons (fCall oTuple (fCons (fOp (oAdd false) (fOp (oAdd false) (fSl false (fVar 8) fNoPart (fPart (fVar 9))) (fLst false (fCons (fVar 10) fNil))) (fSl false (fVar 8) (fPart (fVar 9)) fNoPart)) fNil)) fNil)))))))))) [] xs ρ m = .nx ρ' m' ∧ LE7 a0 (ksP R) T' ρ' ∧ T'.length ≤ 50 ∧ (∀ t ∈ T', ShortK t) ∧ Stp 0 m0 m'
  | [], T, m, ρ, _, s, hl, ht, h => ⟨ρ, m, T, forG_nil, h, by omega, ht, s⟩
  | x :: xs, T, m, ρ, hR, s, hl, ht, h => by
    simp only [List.length_cons] at hl
    obtain ⟨ρ1, e1, ρ2, m2, T2, e2, h2, l2, t2, s2⟩ := turn6 hR hne (Stp.refl hR.st) a0 x T ⟨by omega, ht⟩ h
    obtain ⟨ρ', m', T', e3, h3, l3, t3, s3⟩ := loop6_k hne a0 xs T2 m2 ρ2 (hR.step s2) (s.trans s2) (by omega) t2 h2
    refine ⟨ρ', m', T', ?_, h3, l3, t3, s3⟩
    rw [forG_cons, e1]
    simp only [e2, e3]
theorem law_true : ∀ ns : List Int, ns.length ≤ 63 → ∃ m', f_law [.xls (ns.map .int)] [] = .ok (.bl true) m' := by
  intro ns hns
  have h0 : StAt 0 [stC ns 0 0 1] := ⟨ns, 0, 0, 1, rfl, by omega, by omega⟩
  obtain ⟨R1, m1, e1, r1, n1⟩ := law_rows h0 rfl (.xls (ns.map .int))
  obtain ⟨R, m2, e2, r2, n2⟩ := law_second r1 n1 (.xls (ns.map .int))
  have e3 := law_keys r2 (.xls (ns.map .int))
  have le6 := r2.le6
  obtain ⟨ρ4, m4, e4, rfl, hρ4⟩ := forG_inv (g := .name 2) (body := (fSeq (fIfS (fOr (fNot (fTru (fCall (gd 2 (f_same 4)) (fCons (fCall (gd 1 f_key_of) (fCons (fOp oIx (fVar 4) (fVar 2)) fNil)) (fCons (fOp oIx (fVar 5) (fVar 2)) fNil))))) (fNot (fTru (fCall (gd 2 (f_same 4)) (fCons (fCall (gd 1 f_values_of) (fCons (fOp oIx (fVar 5) (fVar 2)) fNil)) (fCons (fOp oIx (fVar 4) (fVar 2)) fNil)))))) (fRet (fC (.bl false))) fNext)
  (fSeq (fIfS (fNot (fTru (fCall (gd 2 (f_same 4)) (fCons (fCall (gd 1 f_prefix_range) (fCons (fOp oIx (fVar 5) (fVar 2)) fNil)) (fCons (fTup (fCons (fOp oIx (fVar 5) (fVar 2)) (fCons (fOp (oAdd false) (fOp oIx (fVar 5) (fVar 2)) (fTup (fCons (fC (.int 3)) fNil))) fNil))) fNil))))) (fRet (fC (.bl false))) fNext)
  (fFor (iR1 (fCons (fCall oLen (fCons (fVar 4) fNil)) fNil)) (.name 3) (fSeq (fAsg (.name 6) (fCall (gd 2 f_order) (fCons (fOp oIx (fVar 4) (fVar 2)) (fCons (fOp oIx (fVar 4) (fVar 3)) fNil))))
  (fSeq (fIfS (fOr (fNot (fTru (fCall (gd 3 f_agrees) (fCons (fCall (gd 1 f_key_of) (fCons (fOp oIx (fVar 4) (fVar 2)) fNil)) (fCons (fCall (gd 1 f_key_of) (fCons (fOp oIx (fVar 4) (fVar 3)) fNil)) (fCons (fVar 6) fNil)))))) (fNot (fTru (fCall (gd 3 f_agrees) (fCons (fCall (gd 1 f_row_order) (fCons (fOp oIx (fVar 4) (fVar 2)) fNil)) (fCons (fCall (gd 1 f_row_order) (fCons (fOp oIx (fVar 4) (fVar 3)) fNil)) (fCons (fVar 6) fNil))))))) (fRet (fC (.bl false))) fNext)
  (fIfS (fBl (fOp oNe (fCall (gd 2 f_is_in) (fCons (fOp oIx (fVar 5) (fVar 3)) (fCons (fCall (gd 1 f_prefix_range) (fCons (fOp oIx (fVar 5) (fVar 2)) fNil)) fNil))) (fOp oEq (fSl false (fOp oIx (fVar 4) (fVar 3)) fNoPart (fPart (fCall oLen (fCons (fOp oIx (fVar 4) (fVar 2)) fNil)))) (fOp oIx (fVar 4) (fVar 2))))) (fRet (fC (.bl false))) fNext))))))) (Inv := fun ρ n => n = m2 ∧ LE (.xls (ns.map .int)) (ksP R) ρ) (xs := rngP 0 R.length) (ρ := [some (.xls (ns.map .int)), some (.cell 0), none, none, some (.cell 1), some (.lst (R.map fun r => ip (keyB r))), none, none, none, none, none, none, none, none]) (m := m2) (fun x hx ρ n ⟨hn, hρ⟩ => by
    subst hn
    rw [rngP_eq] at hx
    obtain ⟨j, hj, rfl⟩ := List.mem_map.mp hx
    have hlt : j < R.length := by simpa using List.mem_range'_1.mp hj
    obtain ⟨ρ1, e1, ρ2, e2, h2⟩ := pair_k r2 _ (List.getElem?_eq_getElem hlt) hρ
    exact ⟨ρ1, e1, ρ2, n, e2, rfl, h2⟩) ⟨rfl, none, none, none, none, none, none, none, none, none, none, rfl⟩
  obtain ⟨o2, o3, o6, o7, o8, o9, o10, o11, o12, o13, rfl⟩ := hρ4
  obtain ⟨ρ5, m5, T, e5, hρ5, lT, tT, s5⟩ := loop6_k n2 (.xls (ns.map .int)) (rngP 0 6) [] m4 [some (.xls (ns.map .int)), some (.cell 0), o2, o3, some (.cell 1), some (ksP R), o6, some (.lst []), o8, o9, o10, o11, o12, o13] r2 (Stp.refl r2.st) (by simp [rngP]) (fun _ h => (List.not_mem_nil h).elim) ⟨o2, o3, o6, o8, o9, o10, o11, o12, o13, rfl⟩
  obtain ⟨p2, p3, p6, p8, p9, p10, p11, p12, p13, rfl⟩ := hρ5
  have k1 : (R.length : Int) ≤ 100000 := by omega
  have hr := r2.rlen
  have hcut : cutL (T.map ip) none (some 6) = (T.take 6).map ip := by
    have := cut_to (T.map ip) 6
    rw [show ((6 : Nat) : Int) = 6 from rfl, ← List.map_take] at this
    exact this
  have hfin := ranges_k (R.map keyB) (T.take 6) m5 (fun w hw => by
    obtain ⟨r, hr, rfl⟩ := List.mem_map.mp hw
    have := keyB_short (r2.good r hr)
    unfold ShortK; omega) (fun w hw => tT w (List.mem_of_mem_take hw)) (by simpa using n2) (by rw [List.length_map, List.length_take]; omega)
  have hks : ksP R = .lst ((R.map keyB).map ip) := by unfold ksP; rw [List.map_map]; rfl
  rw [← hks] at hfin
  have hcutv : cutV' [] (.bl true) m5 = .ok (.bl true) [] := by
    unfold cutV'
    rw [if_pos (show OkCut [] m5 from ⟨Nat.zero_le _, fun n c h => absurd h (Nat.not_lt_zero _)⟩), fz_under un_bl]
    rfl
  refine ⟨[], ?_⟩
  unfold f_law fnC fnF fb_law
  show (finish true [] (fSeq _ _ [some (.xls (ns.map .int)), none, none, none, none, none, none, none, none, none, none, none, none, none] [])).calm = _
  have hst : ∀ n : M, fLst true (fCons (fCall (oList false) (fCons (fVar 0) fNil)) (fCons (fC (.int 0)) (fCons (fC (.int 0)) (fCons (fC (.int 1)) fNil)))) [some (.xls (ns.map .int)), none, none, none, none, none, none, none, none, none, none, none, none, none] n = .ok (.cell n.length) (n ++ [stC ns 0 0 1]) := fun n => by
    simp [mkL_f, mkL_t, wipeP, mulOk, lw_l, lw_c, lv_l, lv_c, lv_x, sv_l, sv_c, sv_x, sv_t, lw_i, lw_s, lw_t, lv_s, lv_t, lv_i, lv_n, add_ii, add_ss, add_tt, add_ll, add_lc, add_cl, add_cc, sub_ii, plus_ii, mul_ii, mul_li, fdv_ii, mod_ii, pow_ii, neg_i, sh_i, sh_s, sh_t, sh_l, sh_n, sh_b, sh_c, eq_nn, ne_nn, eq_ni, ne_ni, eq_in, ne_in, eq_nb, ne_nb, eq_bn, ne_bn, eq_ns, ne_ns, eq_sn, ne_sn, eq_ii, ne_ii, eq_bb, ne_bb, eq_ss, ne_ss, eq_is, ne_is, eq_si, ne_si, eq_bs, ne_bs, eq_sb, ne_sb, isn_n, non_n, isn_i, non_i, isn_b, non_b, isn_s, non_s, isn_t, non_t, isn_l, non_l, isn_c, non_c, isn_x, non_x, tru_n, tru_b, tru_i, tru_t, tru_l, notv_b, ix_t, ix_s, ix_l, ix_x, ix_c, ixl_c, sl_t, sl_s, sl_l, sl_c, rev_l, rev_c, len_t, len_l, len_x, len_s, len_c, list_t, list_l, list_x, list_c, tuple_t, tuple_l, tuple_c, int_i, int_b, abs_i, ord_s, isi_n, isi_b, isi_i, isi_s, isi_t, isi_l, isi_c, kindc, max_ii, min_ii, app_c, ext_c, set_c, sidx_ss, cm_ii, cm_ile, cm_igt, cm_ige, isl_l, isl_c, isl_s, iss_s, iss_l, b_ok, b_st, b_ex, o_ok, o_st, o_ex, c_ok, c_st, c_ex, fin_rt, fin_nx, fin_st, nx_nx, nx_rt, nx_bk, nx_ct, nx_ex, nx_st, e_seq, e_var, e_c, e_op, e_un, e_nil, e_cons, e_call, e_tup, e_lst, e_otup, e_olst, e_gd, e_asg, e_drop, e_ret, e_retN, e_next, e_brk, e_cont, e_ifs, e_setS, e_aug, e_augS, e_tru, e_bl, e_and, e_or, e_not, e_andV, e_orV, e_notV, e_if, e_chain, e_nop, e_part, e_sl, e_iSeq, e_iR1, e_iR2, rngOk_of, rngOk2_of, e_for, e_lc, e_yes, e_mt, e_mt2, e_join, e_put, e_fits, Tg.put, TgL.puts, stC]
  rw [e_seq, e_asg, hst]
  simp only [o_ok, e_put, List.set_cons_succ, List.set_cons_zero, nx_nx, List.nil_append, List.length_nil]
  rw [e_seq, e1, nx_nx, e_seq, e2, nx_nx, e_seq, e3, nx_nx]
  have hfor : ∀ (t : FS) n, fFor (iR1 (fCons (fCall oLen (fCons (fVar 4) fNil)) fNil)) (.name 2) t [some (.xls (ns.map .int)), some (.cell 0), none, none, some (.cell 1), some (.lst (R.map fun r => ip (keyB r))), none, none, none, none, none, none, none, none] m4 = forG (.name 2) t [] (rngP 0 R.length) [some (.xls (ns.map .int)), some (.cell 0), none, none, some (.cell 1), some (.lst (R.map fun r => ip (keyB r))), none, none, none, none, none, none, none, none] m4 := fun t (n : Nat) => by
    clear e3 r2 e2
    generalize P.cell 1 = cl at hr ⊢
    simp [mkL_f, mkL_t, wipeP, mulOk, lw_l, lw_c, lv_l, lv_c, lv_x, sv_l, sv_c, sv_x, sv_t, lw_i, lw_s, lw_t, lv_s, lv_t, lv_i, lv_n, add_ii, add_ss, add_tt, add_ll, add_lc, add_cl, add_cc, sub_ii, plus_ii, mul_ii, mul_li, fdv_ii, mod_ii, pow_ii, neg_i, sh_i, sh_s, sh_t, sh_l, sh_n, sh_b, sh_c, eq_nn, ne_nn, eq_ni, ne_ni, eq_in, ne_in, eq_nb, ne_nb, eq_bn, ne_bn, eq_ns, ne_ns, eq_sn, ne_sn, eq_ii, ne_ii, eq_bb, ne_bb, eq_ss, ne_ss, eq_is, ne_is, eq_si, ne_si, eq_bs, ne_bs, eq_sb, ne_sb, isn_n, non_n, isn_i, non_i, isn_b, non_b, isn_s, non_s, isn_t, non_t, isn_l, non_l, isn_c, non_c, isn_x, non_x, tru_n, tru_b, tru_i, tru_t, tru_l, notv_b, ix_t, ix_s, ix_l, ix_x, ix_c, ixl_c, sl_t, sl_s, sl_l, sl_c, rev_l, rev_c, len_t, len_l, len_x, len_s, len_c, list_t, list_l, list_x, list_c, tuple_t, tuple_l, tuple_c, int_i, int_b, abs_i, ord_s, isi_n, isi_b, isi_i, isi_s, isi_t, isi_l, isi_c, kindc, max_ii, min_ii, app_c, ext_c, set_c, sidx_ss, cm_ii, cm_ile, cm_igt, cm_ige, isl_l, isl_c, isl_s, iss_s, iss_l, b_ok, b_st, b_ex, o_ok, o_st, o_ex, c_ok, c_st, c_ex, fin_rt, fin_nx, fin_st, nx_nx, nx_rt, nx_bk, nx_ct, nx_ex, nx_st, e_seq, e_var, e_c, e_op, e_un, e_nil, e_cons, e_call, e_tup, e_lst, e_otup, e_olst, e_gd, e_asg, e_drop, e_ret, e_retN, e_next, e_brk, e_cont, e_ifs, e_setS, e_aug, e_augS, e_tru, e_bl, e_and, e_or, e_not, e_andV, e_orV, e_notV, e_if, e_chain, e_nop, e_part, e_sl, e_iSeq, e_iR1, e_iR2, rngOk_of, rngOk2_of, e_for, e_lc, e_yes, e_mt, e_mt2, e_join, e_put, e_fits, Tg.put, TgL.puts, hr, k1]
  rw [e_seq, hfor _ 0, e4, nx_nx]
  rw [e_seq, e_asg, e_lst, e_nil]
  simp only [b_ok, o_ok, e_olst, List.length_nil, e_fits, Nat.zero_le, decide_true, if_true, mkL_f, e_put, List.set_cons_succ, List.set_cons_zero, nx_nx]
  have hfor6 : ∀ (t : FS) ρ n, fFor (iR1 (fCons (fC (.int 6)) fNil)) (.name 2) t ρ n = forG (.name 2) t [] (rngP 0 6) ρ n := fun t ρ n => by
    simp [mkL_f, mkL_t, wipeP, mulOk, lw_l, lw_c, lv_l, lv_c, lv_x, sv_l, sv_c, sv_x, sv_t, lw_i, lw_s, lw_t, lv_s, lv_t, lv_i, lv_n, add_ii, add_ss, add_tt, add_ll, add_lc, add_cl, add_cc, sub_ii, plus_ii, mul_ii, mul_li, fdv_ii, mod_ii, pow_ii, neg_i, sh_i, sh_s, sh_t, sh_l, sh_n, sh_b, sh_c, eq_nn, ne_nn, eq_ni, ne_ni, eq_in, ne_in, eq_nb, ne_nb, eq_bn, ne_bn, eq_ns, ne_ns, eq_sn, ne_sn, eq_ii, ne_ii, eq_bb, ne_bb, eq_ss, ne_ss, eq_is, ne_is, eq_si, ne_si, eq_bs, ne_bs, eq_sb, ne_sb, isn_n, non_n, isn_i, non_i, isn_b, non_b, isn_s, non_s, isn_t, non_t, isn_l, non_l, isn_c, non_c, isn_x, non_x, tru_n, tru_b, tru_i, tru_t, tru_l, notv_b, ix_t, ix_s, ix_l, ix_x, ix_c, ixl_c, sl_t, sl_s, sl_l, sl_c, rev_l, rev_c, len_t, len_l, len_x, len_s, len_c, list_t, list_l, list_x, list_c, tuple_t, tuple_l, tuple_c, int_i, int_b, abs_i, ord_s, isi_n, isi_b, isi_i, isi_s, isi_t, isi_l, isi_c, kindc, max_ii, min_ii, app_c, ext_c, set_c, sidx_ss, cm_ii, cm_ile, cm_igt, cm_ige, isl_l, isl_c, isl_s, iss_s, iss_l, b_ok, b_st, b_ex, o_ok, o_st, o_ex, c_ok, c_st, c_ex, fin_rt, fin_nx, fin_st, nx_nx, nx_rt, nx_bk, nx_ct, nx_ex, nx_st, e_seq, e_var, e_c, e_op, e_un, e_nil, e_cons, e_call, e_tup, e_lst, e_otup, e_olst, e_gd, e_asg, e_drop, e_ret, e_retN, e_next, e_brk, e_cont, e_ifs, e_setS, e_aug, e_augS, e_tru, e_bl, e_and, e_or, e_not, e_andV, e_orV, e_notV, e_if, e_chain, e_nop, e_part, e_sl, e_iSeq, e_iR1, e_iR2, rngOk_of, rngOk2_of, e_for, e_lc, e_yes, e_mt, e_mt2, e_join, e_put, e_fits, Tg.put, TgL.puts]
  rw [e_seq, hfor6, e5, nx_nx]
  clear hks
  generalize ksP R = ks at hfin ⊢
  simp [mkL_f, mkL_t, wipeP, mulOk, lw_l, lw_c, lv_l, lv_c, lv_x, sv_l, sv_c, sv_x, sv_t, lw_i, lw_s, lw_t, lv_s, lv_t, lv_i, lv_n, add_ii, add_ss, add_tt, add_ll, add_lc, add_cl, add_cc, sub_ii, plus_ii, mul_ii, mul_li, fdv_ii, mod_ii, pow_ii, neg_i, sh_i, sh_s, sh_t, sh_l, sh_n, sh_b, sh_c, eq_nn, ne_nn, eq_ni, ne_ni, eq_in, ne_in, eq_nb, ne_nb, eq_bn, ne_bn, eq_ns, ne_ns, eq_sn, ne_sn, eq_ii, ne_ii, eq_bb, ne_bb, eq_ss, ne_ss, eq_is, ne_is, eq_si, ne_si, eq_bs, ne_bs, eq_sb, ne_sb, isn_n, non_n, isn_i, non_i, isn_b, non_b, isn_s, non_s, isn_t, non_t, isn_l, non_l, isn_c, non_c, isn_x, non_x, tru_n, tru_b, tru_i, tru_t, tru_l, notv_b, ix_t, ix_s, ix_l, ix_x, ix_c, ixl_c, sl_t, sl_s, sl_l, sl_c, rev_l, rev_c, len_t, len_l, len_x, len_s, len_c, list_t, list_l, list_x, list_c, tuple_t, tuple_l, tuple_c, int_i, int_b, abs_i, ord_s, isi_n, isi_b, isi_i, isi_s, isi_t, isi_l, isi_c, kindc, max_ii, min_ii, app_c, ext_c, set_c, sidx_ss, cm_ii, cm_ile, cm_igt, cm_ige, isl_l, isl_c, isl_s, iss_s, iss_l, b_ok, b_st, b_ex, o_ok, o_st, o_ex, c_ok, c_st, c_ex, fin_rt, fin_nx, fin_st, nx_nx, nx_rt, nx_bk, nx_ct, nx_ex, nx_st, e_seq, e_var, e_c, e_op, e_un, e_nil, e_cons, e_call, e_tup, e_lst, e_otup, e_olst, e_gd, e_asg, e_drop, e_ret, e_retN, e_next, e_brk, e_cont, e_ifs, e_setS, e_aug, e_augS, e_tru, e_bl, e_and, e_or, e_not, e_andV, e_orV, e_notV, e_if, e_chain, e_nop, e_part, e_sl, e_iSeq, e_iR1, e_iR2, rngOk_of, rngOk2_of, e_for, e_lc, e_yes, e_mt, e_mt2, e_join, e_put, e_fits, Tg.put, TgL.puts, hcut] at *
  simp [mkL_f, mkL_t, wipeP, mulOk, lw_l, lw_c, lv_l, lv_c, lv_x, sv_l, sv_c, sv_x, sv_t, lw_i, lw_s, lw_t, lv_s, lv_t, lv_i, lv_n, add_ii, add_ss, add_tt, add_ll, add_lc, add_cl, add_cc, sub_ii, plus_ii, mul_ii, mul_li, fdv_ii, mod_ii, pow_ii, neg_i, sh_i, sh_s, sh_t, sh_l, sh_n, sh_b, sh_c, eq_nn, ne_nn, eq_ni, ne_ni, eq_in, ne_in, eq_nb, ne_nb, eq_bn, ne_bn, eq_ns, ne_ns, eq_sn, ne_sn, eq_ii, ne_ii, eq_bb, ne_bb, eq_ss, ne_ss, eq_is, ne_is, eq_si, ne_si, eq_bs, ne_bs, eq_sb, ne_sb, isn_n, non_n, isn_i, non_i, isn_b, non_b, isn_s, non_s, isn_t, non_t, isn_l, non_l, isn_c, non_c, isn_x, non_x, tru_n, tru_b, tru_i, tru_t, tru_l, notv_b, ix_t, ix_s, ix_l, ix_x, ix_c, ixl_c, sl_t, sl_s, sl_l, sl_c, rev_l, rev_c, len_t, len_l, len_x, len_s, len_c, list_t, list_l, list_x, list_c, tuple_t, tuple_l, tuple_c, int_i, int_b, abs_i, ord_s, isi_n, isi_b, isi_i, isi_s, isi_t, isi_l, isi_c, kindc, max_ii, min_ii, app_c, ext_c, set_c, sidx_ss, cm_ii, cm_ile, cm_igt, cm_ige, isl_l, isl_c, isl_s, iss_s, iss_l, b_ok, b_st, b_ex, o_ok, o_st, o_ex, c_ok, c_st, c_ex, fin_rt, fin_nx, fin_st, nx_nx, nx_rt, nx_bk, nx_ct, nx_ex, nx_st, e_seq, e_var, e_c, e_op, e_un, e_nil, e_cons, e_call, e_tup, e_lst, e_otup, e_olst, e_gd, e_asg, e_drop, e_ret, e_retN, e_next, e_brk, e_cont, e_ifs, e_setS, e_aug, e_augS, e_tru, e_bl, e_and, e_or, e_not, e_andV, e_orV, e_notV, e_if, e_chain, e_nop, e_part, e_sl, e_iSeq, e_iR1, e_iR2, rngOk_of, rngOk2_of, e_for, e_lc, e_yes, e_mt, e_mt2, e_join, e_put, e_fits, Tg.put, TgL.puts, hcut, hfin, hcutv]

end
/-! D -/
section
open PySem PySem.Spec PyProof.Rows
theorem d_bytes_of {P : Program} {w : World} {K : PySem.W.Frag} {mg : Str → Option Value} {base : Heap} (T : Tx K mg) {cdv : Value} {A : Around} {outer : List PySem.Env} {s : Shared} {H : Hp} {E : XK} (hr : Room (0) (A.deeper (envOfC "bytes_of" (defScope s_bytes_of) s.heap.objs.size (He.fAd K ("bytes_of", none)) cdv))) :
    PSs (cxOf CX0 P w K mg base ["value", "number", "data", "_", "character"] "bytes_of" (defScope s_bytes_of) (He.fAd K ("bytes_of", none)) cdv A outer s H E).nox (defBody s_bytes_of) (tS K (fun _ => E0) fb_bytes_of) := by
  have nd : (["value", "number", "data", "_", "character"] : List Str).Nodup := sc_bytes_of.nd
  have hu := hu_of hr
  unfold fb_bytes_of
  exact (pps_cons (pp_if (pp_tru (pp_callB call_isi p_isi (by rfl) T.f_isinstance (by decide +kernel) (pp_cons (pp_var 0) (pp_cons (pp_c (pe_bltn (v := .ty "str") (by rfl) T.f_str (by decide +kernel) rfl) (fun _ _ _ => .ty _)) pp_nil)))) (pps_one (pp_ret (pp_op o_add (p_add false) (pp_op o_add (p_add false) (pp_lst false (pp_cons (pp_c (pe_gi rfl T.i_TEXT) (fun _ _ _ => .int _)) pp_nil)) (pp_lc false (own := [("character", 4)]) (t := (.name 4)) rfl nd (pp_iSeq (pp_var 0)) (blkOk_by (N := ["value", "number", "data", "_", "character"]) (sc := (defScope s_bytes_of)) (by decide +kernel)) (by decide) (fun _ _ _ _ _ => (pg_name (i := 4) nd rfl (Or.inl rfl))) (fun _ _ _ _ _ => pp_tnil) (fun _ _ _ _ _ => (pp_callB cOrd1 p_ord (by rfl) T.f_ord (by decide +kernel) (pp_cons (pp_var 4) pp_nil))))) (pp_lst false (pp_cons (pp_c pe_int (fun _ _ _ => .int _)) pp_nil))))) pps_nil)
  (pps_cons (pp_set (n := 1) nd rfl (Or.inl rfl) (pp_op o_add (p_add false) (pp_var 0) (pp_c (pe_gi rfl T.i_SHIFT) (fun _ _ _ => .int _))))
  (pps_cons (pp_set (n := 2) nd rfl (Or.inl rfl) (pp_lst true pp_nil))
  (pps_cons (pp_for (t := (.name 3)) PassesOwn.never rfl (pp_iR1 (by rfl) T.f_range (pp_cons (pp_c (pe_gi rfl T.i_NUMBER_BYTES) (fun _ _ _ => .int _)) pp_nil)) (pg_name (i := 3) nd rfl (Or.inl rfl)) (pps_cons (pp_expr (pp_mt PySem.F.plainAttrs_list PySem.F.slot_list_append PySem.F.type_list_append mt_append ty_list p_append (pp_var 2) (pp_cons (pp_op oModI p_mod (pp_var 1) (pp_c pe_int (fun _ _ _ => .int _))) pp_nil)))
  (pps_one (pp_set (n := 1) nd rfl (Or.inl rfl) (pp_op oFdvI p_fdv (pp_var 1) (pp_c pe_int (fun _ _ _ => .int _)))))))
  (pps_one (pp_ret (pp_op o_add (p_add false) (pp_lst false (pp_cons (pp_c (pe_gi rfl T.i_INTEGER) (fun _ _ _ => .int _)) pp_nil)) (pp_rev false (pp_var 2)))))))))

theorem d_key_of {P : Program} {w : World} {K : PySem.W.Frag} {mg : Str → Option Value} {base : Heap} (T : Tx K mg) (G_bytes_of : Con P w K mg base CX0 1 ("bytes_of", none) ["value"] (spF K 1 f_bytes_of)) {cdv : Value} {A : Around} {outer : List PySem.Env} {s : Shared} {H : Hp} {E : XK} (hr : Room (1) (A.deeper (envOfC "key_of" (defScope s_key_of) s.heap.objs.size (He.fAd K ("key_of", none)) cdv))) :
    PSs (cxOf CX0 P w K mg base ["values", "key", "value"] "key_of" (defScope s_key_of) (He.fAd K ("key_of", none)) cdv A outer s H E).nox (defBody s_key_of) (tS K (fun _ => E0) fb_key_of) := by
  have nd : (["values", "key", "value"] : List Str).Nodup := sc_key_of.nd
  have hu := hu_of hr
  unfold fb_key_of
  exact (pps_cons (pp_set (n := 1) nd rfl (Or.inl rfl) (pp_lst true pp_nil))
  (pps_cons (pp_for (t := (.name 2)) PassesOwn.never rfl (pp_iSeq (pp_var 0)) (pg_name (i := 2) nd rfl (Or.inl rfl)) (pps_one (pp_expr (pp_mt PySem.F.plainAttrs_list PySem.F.slot_list_extend PySem.F.type_list_extend mt_extend ty_list p_extend (pp_var 1) (pp_cons (pp_fcall G_bytes_of (hr.mono (by decide)) (by rfl) T.g_bytes_of passN (pp_cons (pp_var 2) pp_nil)) pp_nil)))))
  (pps_one (pp_ret (pp_callT cTupQ p_tuple (by rfl) T.f_tuple (by decide +kernel) (pp_cons (pp_var 1) pp_nil))))))

theorem d_character_of {P : Program} {w : World} {K : PySem.W.Frag} {mg : Str → Option Value} {base : Heap} (T : Tx K mg) {cdv : Value} {A : Around} {outer : List PySem.Env} {s : Shared} {H : Hp} {E : XK} (hr : Room (0) (A.deeper (envOfC "character_of" (defScope s_character_of) s.heap.objs.size (He.fAd K ("character_of", none)) cdv))) :
    PSs (cxOf CX0 P w K mg base ["code"] "character_of" (defScope s_character_of) (He.fAd K ("character_of", none)) cdv A outer s H E).nox (defBody s_character_of) (tS K (fun _ => E0) fb_character_of) := by
  have nd : (["code"] : List Str).Nodup := sc_character_of.nd
  have hu := hu_of hr
  unfold fb_character_of
  exact (pps_cons (pp_if (pp_tchain (op_cm .le (u200 hr)) (op_cm .lt (u200 hr)) (p_cm .le) (p_cm .lt) (pp_c pe_int (fun _ _ _ => .int _)) (pp_var 0) (pp_c pe_int (fun _ _ _ => .int _))) (pps_one (pp_ret (pp_ix (pp_c (pe_gs rfl T.i_BEFORE_PERCENT) (fun _ _ _ => .str _)) (pp_op oSubI p_sub (pp_var 0) (pp_c pe_int (fun _ _ _ => .int _))) (fun _ _ => rfl)))) pps_nil)
  (pps_cons (pp_if (pp_tchain (op_cm .lt (u200 hr)) (op_cm .lt (u200 hr)) (p_cm .lt) (p_cm .lt) (pp_c pe_int (fun _ _ _ => .int _)) (pp_var 0) (pp_c pe_int (fun _ _ _ => .int _))) (pps_one (pp_ret (pp_ix (pp_c (pe_gs rfl T.i_AFTER_PERCENT) (fun _ _ _ => .str _)) (pp_op oSubI p_sub (pp_var 0) (pp_c pe_int (fun _ _ _ => .int _))) (fun _ _ => rfl)))) pps_nil)
  (pps_one (pp_ret (pp_c pe_non (fun _ _ _ => .non))))))

theorem d_integer_at {P : Program} {w : World} {K : PySem.W.Frag} {mg : Str → Option Value} {base : Heap} (T : Tx K mg) {cdv : Value} {A : Around} {outer : List PySem.Env} {s : Shared} {H : Hp} {E : XK} (hr : Room (0) (A.deeper (envOfC "integer_at" (defScope s_integer_at) s.heap.objs.size (He.fAd K ("integer_at", none)) cdv))) :
    PSs (cxOf CX0 P w K mg base ["key", "at", "data", "number", "byte"] "integer_at" (defScope s_integer_at) (He.fAd K ("integer_at", none)) cdv A outer s H E).nox (defBody s_integer_at) (tS K (fun _ => E0) fb_integer_at) := by
  have nd : (["key", "at", "data", "number", "byte"] : List Str).Nodup := sc_integer_at.nd
  have hu := hu_of hr
  unfold fb_integer_at
  exact (pps_cons (pp_set (n := 2) nd rfl (Or.inl rfl) (pp_slice false (pp_var 0) (pp_part (pp_var 1)) (pp_part (pp_op o_add (p_add false) (pp_var 1) (pp_c (pe_gi rfl T.i_NUMBER_BYTES) (fun _ _ _ => .int _))))))
  (pps_cons (pp_if (pp_tcmp (op_cm .lt (u200 hr)) (p_cm .lt) (pp_callB c_len3 p_len (by rfl) T.f_len (by decide +kernel) (pp_cons (pp_var 2) pp_nil)) (pp_c (pe_gi rfl T.i_NUMBER_BYTES) (fun _ _ _ => .int _)) (nomark _)) (pps_one (pp_ret (pp_c pe_non (fun _ _ _ => .non)))) pps_nil)
  (pps_cons (pp_set (n := 3) nd rfl (Or.inl rfl) (pp_c pe_int (fun _ _ _ => .int _)))
  (pps_cons (pp_for (t := (.name 4)) PassesOwn.never rfl (pp_iSeq (pp_var 2)) (pg_name (i := 4) nd rfl (Or.inl rfl)) (pps_one (pp_set (n := 3) nd rfl (Or.inl rfl) (pp_op o_add (p_add false) (pp_op o_mul (p_mul false) (pp_c pe_int (fun _ _ _ => .int _)) (pp_var 3)) (pp_var 4)))))
  (pps_cons (pp_if (pp_not (pp_tchain (op_cm .le (u200 hr)) (op_cm .le (u200 hr)) (p_cm .le) (p_cm .le) (pp_neg (pp_c (pe_gi rfl T.i_BOUND) (fun _ _ _ => .int _))) (pp_op oSubI p_sub (pp_var 3) (pp_c (pe_gi rfl T.i_SHIFT) (fun _ _ _ => .int _))) (pp_c (pe_gi rfl T.i_BOUND) (fun _ _ _ => .int _)))) (pps_one (pp_ret (pp_c pe_non (fun _ _ _ => .non)))) pps_nil)
  (pps_one (pp_ret (pp_op oSubI p_sub (pp_var 3) (pp_c (pe_gi rfl T.i_SHIFT) (fun _ _ _ => .int _))))))))))

theorem d_text_at {P : Program} {w : World} {K : PySem.W.Frag} {mg : Str → Option Value} {base : Heap} (T : Tx K mg) (G_character_of : Con P w K mg base CX0 1 ("character_of", none) ["code"] (spF K 1 f_character_of)) {cdv : Value} {A : Around} {outer : List PySem.Env} {s : Shared} {H : Hp} {E : XK} (hr : Room (1) (A.deeper (envOfC "text_at" (defScope s_text_at) s.heap.objs.size (He.fAd K ("text_at", none)) cdv))) :
    PSs (cxOf CX0 P w K mg base ["key", "at", "text", "code", "character"] "text_at" (defScope s_text_at) (He.fAd K ("text_at", none)) cdv A outer s H E).nox (defBody s_text_at) (tS K (fun _ => E0) fb_text_at) := by
  have nd : (["key", "at", "text", "code", "character"] : List Str).Nodup := sc_text_at.nd
  have hu := hu_of hr
  unfold fb_text_at
  exact (pps_cons (pp_set (n := 2) nd rfl (Or.inl rfl) (pp_c pe_str (fun _ _ _ => .str _)))
  (pps_cons (pp_for (t := (.name 3)) PassesOwn.never rfl (pp_iSeq (pp_slice false (pp_var 0) (pp_part (pp_var 1)) (pp_part (pp_op o_add (p_add false) (pp_op o_add (p_add false) (pp_var 1) (pp_c (pe_gi rfl T.i_MOST_CHARACTERS) (fun _ _ _ => .int _))) (pp_c pe_int (fun _ _ _ => .int _)))))) (pg_name (i := 3) nd rfl (Or.inl rfl)) (pps_cons (pp_if (pp_tcmp (o_eq hr.units) p_eq (pp_var 3) (pp_c pe_int (fun _ _ _ => .int _)) (nomark _)) (pps_one (pp_ret (pp_var 2))) pps_nil)
  (pps_cons (pp_set (n := 4) nd rfl (Or.inl rfl) (pp_fcall G_character_of (hr.mono (by decide)) (by rfl) T.g_character_of passN (pp_cons (pp_var 3) pp_nil)))
  (pps_cons (pp_if (pp_tcmp oIsNo p_isN (pp_var 4) (pp_c pe_non (fun _ _ _ => .non)) (nomark _)) (pps_one (pp_ret (pp_c pe_non (fun _ _ _ => .non)))) pps_nil)
  (pps_one (pp_set (n := 2) nd rfl (Or.inl rfl) (pp_op o_add (p_add false) (pp_var 2) (pp_var 4))))))))
  (pps_one (pp_ret (pp_c pe_non (fun _ _ _ => .non))))))

theorem d_values_of {P : Program} {w : World} {K : PySem.W.Frag} {mg : Str → Option Value} {base : Heap} (T : Tx K mg) (G_integer_at : Con P w K mg base CX0 1 ("integer_at", none) ["key", "at"] (spF K 2 f_integer_at)) (G_text_at : Con P w K mg base CX0 2 ("text_at", none) ["key", "at"] (spF K 2 f_text_at)) (G_bytes_of : Con P w K mg base CX0 1 ("bytes_of", none) ["value"] (spF K 1 f_bytes_of)) {cdv : Value} {A : Around} {outer : List PySem.Env} {s : Shared} {H : Hp} {E : XK} (hr : Room (2) (A.deeper (envOfC "values_of" (defScope s_values_of) s.heap.objs.size (He.fAd K ("values_of", none)) cdv))) :
    PSs (cxOf CX0 P w K mg base ["key", "found", "at", "value"] "values_of" (defScope s_values_of) (He.fAd K ("values_of", none)) cdv A outer s H E).nox (defBody s_values_of) (tS K (fun _ => E0) fb_values_of) := by
  have nd : (["key", "found", "at", "value"] : List Str).Nodup := sc_values_of.nd
  have hu := hu_of hr
  unfold fb_values_of
  exact (pps_cons (pp_set (n := 1) nd rfl (Or.inl rfl) (pp_lst true pp_nil))
  (pps_cons (pp_set (n := 2) nd rfl (Or.inl rfl) (pp_c pe_int (fun _ _ _ => .int _)))
  (pps_cons (pp_while PassesOwn.never (pp_tcmp (op_cm .lt (u200 hr)) (p_cm .lt) (pp_var 2) (pp_callB c_len3 p_len (by rfl) T.f_len (by decide +kernel) (pp_cons (pp_var 0) pp_nil)) (nomark _)) (pps_cons (pp_if (pp_tcmp (o_eq hr.units) p_eq (pp_ix (pp_var 0) (pp_var 2) (fun _ _ => rfl)) (pp_c (pe_gi rfl T.i_INTEGER) (fun _ _ _ => .int _)) (nomark _)) (pps_one (pp_set (n := 3) nd rfl (Or.inl rfl) (pp_fcall G_integer_at (hr.mono (by decide)) (by rfl) T.g_integer_at passN (pp_cons (pp_var 0) (pp_cons (pp_op o_add (p_add false) (pp_var 2) (pp_c pe_int (fun _ _ _ => .int _))) pp_nil))))) (pps_one (pp_if (pp_tcmp (o_eq hr.units) p_eq (pp_ix (pp_var 0) (pp_var 2) (fun _ _ => rfl)) (pp_c (pe_gi rfl T.i_TEXT) (fun _ _ _ => .int _)) (nomark _)) (pps_one (pp_set (n := 3) nd rfl (Or.inl rfl) (pp_fcall G_text_at (hr.mono (by decide)) (by rfl) T.g_text_at passN (pp_cons (pp_var 0) (pp_cons (pp_op o_add (p_add false) (pp_var 2) (pp_c pe_int (fun _ _ _ => .int _))) pp_nil))))) (pps_one (pp_ret (pp_c pe_non (fun _ _ _ => .non)))))))
  (pps_cons (pp_if (pp_tcmp oIsNo p_isN (pp_var 3) (pp_c pe_non (fun _ _ _ => .non)) (nomark _)) (pps_one (pp_ret (pp_c pe_non (fun _ _ _ => .non)))) pps_nil)
  (pps_cons (pp_expr (pp_mt PySem.F.plainAttrs_list PySem.F.slot_list_append PySem.F.type_list_append mt_append ty_list p_append (pp_var 1) (pp_cons (pp_var 3) pp_nil)))
  (pps_one (pp_aug (n := 2) nd rfl (Or.inl rfl) (pp_callB c_len3 p_len (by rfl) T.f_len (by decide +kernel) (pp_cons (pp_fcall G_bytes_of (hr.mono (by decide)) (by rfl) T.g_bytes_of passN (pp_cons (pp_var 3) pp_nil)) pp_nil)) ip_add p_ipadd))))))
  (pps_one (pp_ret (pp_callT cTupQ p_tuple (by rfl) T.f_tuple (by decide +kernel) (pp_cons (pp_var 1) pp_nil)))))))

theorem d_prefix_range {P : Program} {w : World} {K : PySem.W.Frag} {mg : Str → Option Value} {base : Heap} (T : Tx K mg) {cdv : Value} {A : Around} {outer : List PySem.Env} {s : Shared} {H : Hp} {E : XK} (hr : Room (0) (A.deeper (envOfC "prefix_range" (defScope s_prefix_range) s.heap.objs.size (He.fAd K ("prefix_range", none)) cdv))) :
    PSs (cxOf CX0 P w K mg base ["key"] "prefix_range" (defScope s_prefix_range) (He.fAd K ("prefix_range", none)) cdv A outer s H E).nox (defBody s_prefix_range) (tS K (fun _ => E0) fb_prefix_range) := by
  have nd : (["key"] : List Str).Nodup := sc_prefix_range.nd
  have hu := hu_of hr
  unfold fb_prefix_range
  exact (pps_one (pp_ret (pp_tup (pp_cons (pp_var 0) (pp_cons (pp_op o_add (p_add false) (pp_var 0) (pp_tup (pp_cons (pp_c (pe_gi rfl T.i_BEHIND) (fun _ _ _ => .int _)) pp_nil))) pp_nil)))))

theorem d_is_in {P : Program} {w : World} {K : PySem.W.Frag} {mg : Str → Option Value} {base : Heap} (T : Tx K mg) {cdv : Value} {A : Around} {outer : List PySem.Env} {s : Shared} {H : Hp} {E : XK} (hr : Room (0) (A.deeper (envOfC "is_in" (defScope s_is_in) s.heap.objs.size (He.fAd K ("is_in", none)) cdv))) :
    PSs (cxOf CX0 P w K mg base ["key", "span", "low", "high"] "is_in" (defScope s_is_in) (He.fAd K ("is_in", none)) cdv A outer s H E).nox (defBody s_is_in) (tS K (fun _ => E0) fb_is_in) := by
  have nd : (["key", "span", "low", "high"] : List Str).Nodup := sc_is_in.nd
  have hu := hu_of hr
  unfold fb_is_in
  exact (pps_cons (pp_asg (t := (.tup (.cons (.name 2) (.cons (.name 3) TgL.nil)))) (pp_var 1) (pg_tup rfl (pgs_cons (pg_name (i := 2) nd rfl (Or.inl rfl)) (pgs_cons (pg_name (i := 3) nd rfl (Or.inl rfl)) pgs_nil))))
  (pps_one (pp_ret (pp_chain (op_cm .le (u200 hr)) (op_cm .lt (u200 hr)) (p_cm .le) (p_cm .lt) (pp_var 2) (pp_var 0) (pp_var 3)))))

theorem d_meet {P : Program} {w : World} {K : PySem.W.Frag} {mg : Str → Option Value} {base : Heap} (T : Tx K mg) {cdv : Value} {A : Around} {outer : List PySem.Env} {s : Shared} {H : Hp} {E : XK} (hr : Room (0) (A.deeper (envOfC "meet" (defScope s_meet) s.heap.objs.size (He.fAd K ("meet", none)) cdv))) :
    PSs (cxOf CX0 P w K mg base ["first", "second"] "meet" (defScope s_meet) (He.fAd K ("meet", none)) cdv A outer s H E).nox (defBody s_meet) (tS K (fun _ => E0) fb_meet) := by
  have nd : (["first", "second"] : List Str).Nodup := sc_meet.nd
  have hu := hu_of hr
  unfold fb_meet
  exact (pps_one (pp_ret (pp_cmp (op_cm .lt (u200 hr)) (p_cm .lt) (pp_callB (c_max rfl hr.units) p_max (by rfl) T.f_max (by decide +kernel) (pp_cons (pp_ix (pp_var 0) (pp_c pe_int (fun _ _ _ => .int _)) (fun _ _ => rfl)) (pp_cons (pp_ix (pp_var 1) (pp_c pe_int (fun _ _ _ => .int _)) (fun _ _ => rfl)) pp_nil))) (pp_callB (c_min rfl hr.units) p_min (by rfl) T.f_min (by decide +kernel) (pp_cons (pp_ix (pp_var 0) (pp_c pe_int (fun _ _ _ => .int _)) (fun _ _ => rfl)) (pp_cons (pp_ix (pp_var 1) (pp_c pe_int (fun _ _ _ => .int _)) (fun _ _ => rfl)) pp_nil))) (nomark _))))

theorem d_row_order {P : Program} {w : World} {K : PySem.W.Frag} {mg : Str → Option Value} {base : Heap} (T : Tx K mg) {cdv : Value} {A : Around} {outer : List PySem.Env} {s : Shared} {H : Hp} {E : XK} (hr : Room (0) (A.deeper (envOfC "row_order" (defScope s_row_order) s.heap.objs.size (He.fAd K ("row_order", none)) cdv))) :
    PSs (cxOf CX0 P w K mg base ["values", "value"] "row_order" (defScope s_row_order) (He.fAd K ("row_order", none)) cdv A outer s H E).nox (defBody s_row_order) (tS K (fun _ => E0) fb_row_order) := by
  have nd : (["values", "value"] : List Str).Nodup := sc_row_order.nd
  have hu := hu_of hr
  unfold fb_row_order
  exact (pps_one (pp_ret (pp_callT cTupQ p_tuple (by rfl) T.f_tuple (by decide +kernel) (pp_cons (pp_lc false (own := [("value", 1)]) (t := (.name 1)) rfl nd (pp_iSeq (pp_var 0)) (blkOk_by (N := ["values", "value"]) (sc := (defScope s_row_order)) (by decide +kernel)) (by decide) (fun _ _ _ _ _ => (pg_name (i := 1) nd rfl (Or.inl rfl))) (fun _ _ _ _ _ => pp_tnil) (fun _ _ _ _ _ => (pp_tup (pp_cons (pp_callT cInt1 p_int (by rfl) T.f_int (by decide +kernel) (pp_cons (pp_callB call_isi p_isi (by rfl) T.f_isinstance (by decide +kernel) (pp_cons (pp_var 1) (pp_cons (pp_c (pe_bltn (v := .ty "str") (by rfl) T.f_str (by decide +kernel) rfl) (fun _ _ _ => .ty _)) pp_nil))) pp_nil)) (pp_cons (pp_var 1) pp_nil))))) pp_nil))))

theorem d_next {P : Program} {w : World} {K : PySem.W.Frag} {mg : Str → Option Value} {base : Heap} (T : Tx K mg) {cdv : Value} {A : Around} {outer : List PySem.Env} {s : Shared} {H : Hp} {E : XK} (hr : Room (0) (A.deeper (envOfC "_law_next" (defScope s_next) s.heap.objs.size (He.fAd K ("_law_next", none)) cdv))) :
    PSs (cxOf CX0 P w K mg base ["_law_state", "_law_limit", "_law_cell", "_law_value_here"] "_law_next" (defScope s_next) (He.fAd K ("_law_next", none)) cdv A outer s H E).nox (defBody s_next) (tS K (fun _ => E0) fb_next) := by
  have nd : (["_law_state", "_law_limit", "_law_cell", "_law_value_here"] : List Str).Nodup := sc_next.nd
  have hu := hu_of hr
  unfold fb_next
  exact (pps_cons (pp_if (PW.pt (pp_and (pp_tcmp (o_eq hr.units) p_eq (pp_ix (pp_var 0) (pp_c pe_int (fun _ _ _ => .int _)) (fun _ _ => rfl)) (pp_c pe_int (fun _ _ _ => .int _)) (nomark _)) (pp_and1 (pp_tcmp (op_cm .lt (u200 hr)) (p_cm .lt) (pp_ix (pp_var 0) (pp_c pe_int (fun _ _ _ => .int _)) (fun _ _ => rfl)) (pp_callB c_len3 p_len (by rfl) T.f_len (by decide +kernel) (pp_cons (pp_ix (pp_var 0) (pp_c pe_int (fun _ _ _ => .int _)) (fun _ _ => rfl)) pp_nil)) (nomark _))))) (pps_cons (pp_set (n := 2) nd rfl (Or.inl rfl) (pp_ix (pp_ix (pp_var 0) (pp_c pe_int (fun _ _ _ => .int _)) (fun _ _ => rfl)) (pp_ix (pp_var 0) (pp_c pe_int (fun _ _ _ => .int _)) (fun _ _ => rfl)) (fun _ _ => rfl)))
  (pps_cons (pp_augS (pp_var 0) (pp_c pe_int (fun _ _ _ => .int _)) (pp_c pe_int (fun _ _ _ => .int _)) ip_add p_ipadd)
  (pps_one (pp_if (pp_tcmp (op_cm .ge (u200 hr)) (p_cm .ge) (pp_var 2) (pp_op oPowI p_pow (pp_c pe_int (fun _ _ _ => .int _)) (pp_c pe_int (fun _ _ _ => .int _))) (nomark _)) (pps_one (pp_setS (pp_var 0) (pp_c pe_int (fun _ _ _ => .int _)) (pp_var 2))) (pps_one (pp_setS (pp_var 0) (pp_c pe_int (fun _ _ _ => .int _)) (pp_op oModI p_mod (pp_callT cInt1 p_int (by rfl) T.f_int (by decide +kernel) (pp_cons (pp_op o_add (p_add false) (pp_op o_add (p_add false) (pp_op o_mul (p_mul false) (pp_ix (pp_var 0) (pp_c pe_int (fun _ _ _ => .int _)) (fun _ _ => rfl)) (pp_c pe_int (fun _ _ _ => .int _))) (pp_op oModI p_mod (pp_callT cInt1 p_int (by rfl) T.f_int (by decide +kernel) (pp_cons (pp_var 2) pp_nil)) (pp_c pe_int (fun _ _ _ => .int _)))) (pp_c pe_int (fun _ _ _ => .int _))) pp_nil)) (pp_c pe_int (fun _ _ _ => .int _))))))))) pps_nil)
  (pps_cons (pp_if (pp_tcmp (op_cm .gt (u200 hr)) (p_cm .gt) (pp_ix (pp_var 0) (pp_c pe_int (fun _ _ _ => .int _)) (fun _ _ => rfl)) (pp_c pe_int (fun _ _ _ => .int _)) (nomark _)) (pps_cons (pp_set (n := 3) nd rfl (Or.inl rfl) (pp_op oModI p_mod (pp_callT cInt1 p_int (by rfl) T.f_int (by decide +kernel) (pp_cons (pp_ix (pp_var 0) (pp_c pe_int (fun _ _ _ => .int _)) (fun _ _ => rfl)) pp_nil)) (pp_var 1)))
  (pps_cons (pp_setS (pp_var 0) (pp_c pe_int (fun _ _ _ => .int _)) (pp_op oFdvI p_fdv (pp_ix (pp_var 0) (pp_c pe_int (fun _ _ _ => .int _)) (fun _ _ => rfl)) (pp_var 1)))
  (pps_one (pp_ret (pp_var 3))))) pps_nil)
  (pps_cons (pp_setS (pp_var 0) (pp_c pe_int (fun _ _ _ => .int _)) (pp_op oModI p_mod (pp_callT cInt1 p_int (by rfl) T.f_int (by decide +kernel) (pp_cons (pp_op o_add (p_add false) (pp_op o_mul (p_mul false) (pp_ix (pp_var 0) (pp_c pe_int (fun _ _ _ => .int _)) (fun _ _ => rfl)) (pp_c pe_int (fun _ _ _ => .int _))) (pp_c pe_int (fun _ _ _ => .int _))) pp_nil)) (pp_c pe_int (fun _ _ _ => .int _))))
  (pps_one (pp_ret (pp_op oModI p_mod (pp_callT cInt1 p_int (by rfl) T.f_int (by decide +kernel) (pp_cons (pp_op oFdvI p_fdv (pp_ix (pp_var 0) (pp_c pe_int (fun _ _ _ => .int _)) (fun _ _ => rfl)) (pp_c pe_int (fun _ _ _ => .int _))) pp_nil)) (pp_var 1)))))))

theorem d_same (n : Nat) {P : Program} {w : World} {K : PySem.W.Frag} {mg : Str → Option Value} {base : Heap} (T : Tx K mg) (G_same : Con P w K mg base CX0 n ("_law_same", none) ["_law_actual", "_law_expected"] (spF K 2 (f_same n))) {cdv : Value} {A : Around} {outer : List PySem.Env} {s : Shared} {H : Hp} {E : XK} (hr : Room (n) (A.deeper (envOfC "_law_same" (defScope s_same) s.heap.objs.size (He.fAd K ("_law_same", none)) cdv))) :
    PSs (cxOf CX0 P w K mg base ["_law_actual", "_law_expected", "_law_k"] "_law_same" (defScope s_same) (He.fAd K ("_law_same", none)) cdv A outer s H E).nox (defBody s_same) (tS K (fun _ => E0) (fb_same (fun _ => f_same n) n)) := by
  have nd : (["_law_actual", "_law_expected", "_law_k"] : List Str).Nodup := sc_same.nd
  have hu := hu_of hr
  unfold fb_same
  exact (pps_cons (pp_if (pp_tcmp oIsNo p_isN (pp_var 1) (pp_c pe_non (fun _ _ _ => .non)) (nomark _)) (pps_one (pp_ret (pp_cmp oIsNo p_isN (pp_var 0) (pp_c pe_non (fun _ _ _ => .non)) (nomark _)))) pps_nil)
  (pps_cons (pp_if (pp_tru (pp_callB call_isi p_isi (by rfl) T.f_isinstance (by decide +kernel) (pp_cons (pp_var 1) (pp_cons (pp_c (pe_bltn (v := .ty "bool") (by rfl) T.f_bool (by decide +kernel) rfl) (fun _ _ _ => .ty _)) pp_nil)))) (pps_one (pp_ret (pp_andV (pp_callB call_isi p_isi (by rfl) T.f_isinstance (by decide +kernel) (pp_cons (pp_var 0) (pp_cons (pp_c (pe_bltn (v := .ty "bool") (by rfl) T.f_bool (by decide +kernel) rfl) (fun _ _ _ => .ty _)) pp_nil))) (pp_one (pp_cmp (o_eq hr.units) p_eq (pp_var 0) (pp_var 1) (nomark _)))))) pps_nil)
  (pps_cons (pp_if (pp_tru (pp_callB call_isi p_isi (by rfl) T.f_isinstance (by decide +kernel) (pp_cons (pp_var 1) (pp_cons (pp_c (pe_bltn (v := .ty "int") (by rfl) T.f_int (by decide +kernel) rfl) (fun _ _ _ => .ty _)) pp_nil)))) (pps_one (pp_ret (pp_andV (pp_callB call_isi p_isi (by rfl) T.f_isinstance (by decide +kernel) (pp_cons (pp_var 0) (pp_cons (pp_c (pe_bltn (v := .ty "int") (by rfl) T.f_int (by decide +kernel) rfl) (fun _ _ _ => .ty _)) pp_nil))) (pp_andV (pp_notV (pp_callB call_isi p_isi (by rfl) T.f_isinstance (by decide +kernel) (pp_cons (pp_var 0) (pp_cons (pp_c (pe_bltn (v := .ty "bool") (by rfl) T.f_bool (by decide +kernel) rfl) (fun _ _ _ => .ty _)) pp_nil)))) (pp_one (pp_cmp (o_eq hr.units) p_eq (pp_var 0) (pp_var 1) (nomark _))))))) pps_nil)
  (pps_cons (pp_if (pp_tru (pp_callB call_isi p_isi (by rfl) T.f_isinstance (by decide +kernel) (pp_cons (pp_var 1) (pp_cons (pp_c (pe_bltn (v := .ty "str") (by rfl) T.f_str (by decide +kernel) rfl) (fun _ _ _ => .ty _)) pp_nil)))) (pps_one (pp_ret (pp_andV (pp_callB call_isi p_isi (by rfl) T.f_isinstance (by decide +kernel) (pp_cons (pp_var 0) (pp_cons (pp_c (pe_bltn (v := .ty "str") (by rfl) T.f_str (by decide +kernel) rfl) (fun _ _ _ => .ty _)) pp_nil))) (pp_one (pp_cmp (o_eq hr.units) p_eq (pp_var 0) (pp_var 1) (nomark _)))))) pps_nil)
  (pps_cons (pp_if (PW.pt (pp_and (pp_tru (pp_callB call_isi p_isi (by rfl) T.f_isinstance (by decide +kernel) (pp_cons (pp_var 1) (pp_cons (pp_c (pe_bltn (v := .ty "tuple") (by rfl) T.f_tuple (by decide +kernel) rfl) (fun _ _ _ => .ty _)) pp_nil)))) (pp_and1 (pp_not (pp_tru (pp_callB call_isi p_isi (by rfl) T.f_isinstance (by decide +kernel) (pp_cons (pp_var 0) (pp_cons (pp_c (pe_bltn (v := .ty "tuple") (by rfl) T.f_tuple (by decide +kernel) rfl) (fun _ _ _ => .ty _)) pp_nil)))))))) (pps_one (pp_ret (pp_c pe_bl (fun _ _ _ => .bl _)))) pps_nil)
  (pps_cons (pp_if (PW.pt (pp_and (pp_tru (pp_callB call_isi p_isi (by rfl) T.f_isinstance (by decide +kernel) (pp_cons (pp_var 1) (pp_cons (pp_c (pe_bltn (v := .ty "list") (by rfl) T.f_list (by decide +kernel) rfl) (fun _ _ _ => .ty _)) pp_nil)))) (pp_and1 (pp_not (pp_tru (pp_callB call_isi p_isi (by rfl) T.f_isinstance (by decide +kernel) (pp_cons (pp_var 0) (pp_cons (pp_c (pe_bltn (v := .ty "list") (by rfl) T.f_list (by decide +kernel) rfl) (fun _ _ _ => .ty _)) pp_nil)))))))) (pps_one (pp_ret (pp_c pe_bl (fun _ _ _ => .bl _)))) pps_nil)
  (pps_cons (pp_if (pp_tcmp (o_ne hr.units) p_ne (pp_callB c_len3 p_len (by rfl) T.f_len (by decide +kernel) (pp_cons (pp_var 0) pp_nil)) (pp_callB c_len3 p_len (by rfl) T.f_len (by decide +kernel) (pp_cons (pp_var 1) pp_nil)) (nomark _)) (pps_one (pp_ret (pp_c pe_bl (fun _ _ _ => .bl _)))) pps_nil)
  (pps_cons (pp_for (t := (.name 2)) PassesOwn.never rfl (pp_iR1 (by rfl) T.f_range (pp_cons (pp_callB c_len3 p_len (by rfl) T.f_len (by decide +kernel) (pp_cons (pp_var 1) pp_nil)) pp_nil)) (pg_name (i := 2) nd rfl (Or.inl rfl)) (pps_one (pp_if (pp_not (pp_tru (pp_fcall G_same hr (by rfl) T.g_same passN (pp_cons (pp_ix (pp_var 0) (pp_var 2) (fun _ _ => rfl)) (pp_cons (pp_ix (pp_var 1) (pp_var 2) (fun _ _ => rfl)) pp_nil))))) (pps_one (pp_ret (pp_c pe_bl (fun _ _ _ => .bl _)))) pps_nil)))
  (pps_one (pp_ret (pp_c pe_bl (fun _ _ _ => .bl _))))))))))))

theorem d_value {P : Program} {w : World} {K : PySem.W.Frag} {mg : Str → Option Value} {base : Heap} (T : Tx K mg) (G_next : Con P w K mg base CX0 1 ("_law_next", none) ["_law_state", "_law_limit"] (spF K 2 f_next)) (G_characters : Con P w K mg base CX0 1 ("_law_characters", none) [] (spF K 0 f_characters)) {cdv : Value} {A : Around} {outer : List PySem.Env} {s : Shared} {H : Hp} {E : XK} (hr : Room (1) (A.deeper (envOfC "_law_value" (defScope s_value) s.heap.objs.size (He.fAd K ("_law_value", none)) cdv))) :
    PSs (cxOf CX0 P w K mg base ["_law_state", "_law_pick", "_law_start", "_law_step", "_law_j"] "_law_value" (defScope s_value) (He.fAd K ("_law_value", none)) cdv A outer s H E).nox (defBody s_value) (tS K (fun _ => E0) fb_value) := by
  have nd : (["_law_state", "_law_pick", "_law_start", "_law_step", "_law_j"] : List Str).Nodup := sc_value.nd
  have hu := hu_of hr
  unfold fb_value
  exact (pps_cons (pp_set (n := 1) nd rfl (Or.inl rfl) (pp_fcall G_next (hr.mono (by decide)) (by rfl) T.g_next passN (pp_cons (pp_var 0) (pp_cons (pp_c pe_int (fun _ _ _ => .int _)) pp_nil))))
  (pps_cons (pp_if (pp_tcmp (op_cm .lt (u200 hr)) (p_cm .lt) (pp_var 1) (pp_c pe_int (fun _ _ _ => .int _)) (nomark _)) (pps_one (pp_ret (pp_ix (pp_lst false (pp_cons (pp_c pe_int (fun _ _ _ => .int _)) (pp_cons (pp_c pe_int (fun _ _ _ => .int _)) (pp_cons (pp_c pe_int (fun _ _ _ => .int _)) (pp_cons (pp_neg (pp_c pe_int (fun _ _ _ => .int _))) (pp_cons (pp_c pe_int (fun _ _ _ => .int _)) pp_nil)))))) (pp_var 1) (fun _ _ => rfl)))) pps_nil)
  (pps_cons (pp_if (pp_tcmp (o_eq hr.units) p_eq (pp_var 1) (pp_c pe_int (fun _ _ _ => .int _)) (nomark _)) (pps_one (pp_ret (pp_op o_mul (p_mul false) (pp_op oSubI p_sub (pp_c pe_int (fun _ _ _ => .int _)) (pp_op o_mul (p_mul false) (pp_c pe_int (fun _ _ _ => .int _)) (pp_fcall G_next (hr.mono (by decide)) (by rfl) T.g_next passN (pp_cons (pp_var 0) (pp_cons (pp_c pe_int (fun _ _ _ => .int _)) pp_nil))))) (pp_op oSubI p_sub (pp_op oPowI p_pow (pp_c pe_int (fun _ _ _ => .int _)) (pp_c pe_int (fun _ _ _ => .int _))) (pp_fcall G_next (hr.mono (by decide)) (by rfl) T.g_next passN (pp_cons (pp_var 0) (pp_cons (pp_c pe_int (fun _ _ _ => .int _)) pp_nil))))))) pps_nil)
  (pps_cons (pp_if (pp_tcmp (o_eq hr.units) p_eq (pp_var 1) (pp_c pe_int (fun _ _ _ => .int _)) (nomark _)) (pps_one (pp_ret (pp_op oSubI p_sub (pp_fcall G_next (hr.mono (by decide)) (by rfl) T.g_next passN (pp_cons (pp_var 0) (pp_cons (pp_op o_add (p_add false) (pp_op o_mul (p_mul false) (pp_c pe_int (fun _ _ _ => .int _)) (pp_op oPowI p_pow (pp_c pe_int (fun _ _ _ => .int _)) (pp_c pe_int (fun _ _ _ => .int _)))) (pp_c pe_int (fun _ _ _ => .int _))) pp_nil))) (pp_op oPowI p_pow (pp_c pe_int (fun _ _ _ => .int _)) (pp_c pe_int (fun _ _ _ => .int _)))))) pps_nil)
  (pps_cons (pp_if (pp_tcmp (op_cm .lt (u200 hr)) (p_cm .lt) (pp_var 1) (pp_c pe_int (fun _ _ _ => .int _)) (nomark _)) (pps_one (pp_ret (pp_ix (pp_lst false (pp_cons (pp_c pe_str (fun _ _ _ => .str _)) (pp_cons (pp_c pe_str (fun _ _ _ => .str _)) (pp_cons (pp_c pe_str (fun _ _ _ => .str _)) (pp_cons (pp_c pe_str (fun _ _ _ => .str _)) pp_nil))))) (pp_op o_add (p_add false) (pp_op oSubI p_sub (pp_var 1) (pp_c pe_int (fun _ _ _ => .int _))) (pp_op o_mul (p_mul false) (pp_callT cInt1 p_int (by rfl) T.f_int (by decide +kernel) (pp_cons (pp_cmp (o_eq hr.units) p_eq (pp_fcall G_next (hr.mono (by decide)) (by rfl) T.g_next passN (pp_cons (pp_var 0) (pp_cons (pp_c pe_int (fun _ _ _ => .int _)) pp_nil))) (pp_c pe_int (fun _ _ _ => .int _)) (nomark _)) pp_nil)) (pp_op o_add (p_add false) (pp_op oSubI p_sub (pp_c pe_int (fun _ _ _ => .int _)) (pp_var 1)) (pp_c pe_int (fun _ _ _ => .int _))))) (fun _ _ => rfl)))) pps_nil)
  (pps_cons (pp_set (n := 2) nd rfl (Or.inr rfl) (pp_fcall G_next (hr.mono (by decide)) (by rfl) T.g_next passN (pp_cons (pp_var 0) (pp_cons (pp_c pe_int (fun _ _ _ => .int _)) pp_nil))))
  (pps_cons (pp_set (n := 3) nd rfl (Or.inr rfl) (pp_fcall G_next (hr.mono (by decide)) (by rfl) T.g_next passN (pp_cons (pp_var 0) (pp_cons (pp_c pe_int (fun _ _ _ => .int _)) pp_nil))))
  (pps_one (pp_ret (pp_join (pp_c pe_str (fun _ _ _ => .str _)) (pp_lc false (own := [("_law_j", 4)]) (t := (.name 4)) rfl nd (pp_iR1 (by rfl) T.f_range (pp_cons (pp_fcall G_next (hr.mono (by decide)) (by rfl) T.g_next passN (pp_cons (pp_var 0) (pp_cons (pp_c pe_int (fun _ _ _ => .int _)) pp_nil))) pp_nil)) (blkOk_by (N := ["_law_state", "_law_pick", "_law_start", "_law_step", "_law_j"]) (sc := (defScope s_value)) (by decide +kernel)) (by decide) (fun _ _ _ _ _ => (pg_name (i := 4) nd rfl (Or.inl rfl))) (fun _ _ _ _ _ => pp_tnil) (fun _ _ _ _ _ => (pp_ix (pp_fcall0 G_characters (hr.mono (by decide)) (by rfl) T.g_characters passN) (pp_op oModI p_mod (pp_op o_add (p_add false) (pp_var 2) (pp_op o_mul (p_mul false) (pp_var 3) (pp_var 4))) (pp_c pe_int (fun _ _ _ => .int _))) (fun _ _ => rfl))))))))))))))

theorem d_characters {P : Program} {w : World} {K : PySem.W.Frag} {mg : Str → Option Value} {base : Heap} (T : Tx K mg) {cdv : Value} {A : Around} {outer : List PySem.Env} {s : Shared} {H : Hp} {E : XK} (hr : Room (0) (A.deeper (envOfC "_law_characters" (defScope s_characters) s.heap.objs.size (He.fAd K ("_law_characters", none)) cdv))) :
    PSs (cxOf CX0 P w K mg base [] "_law_characters" (defScope s_characters) (He.fAd K ("_law_characters", none)) cdv A outer s H E).nox (defBody s_characters) (tS K (fun _ => E0) fb_characters) := by
  have nd : ([] : List Str).Nodup := sc_characters.nd
  have hu := hu_of hr
  unfold fb_characters
  exact (pps_one (pp_ret (pp_c pe_str (fun _ _ _ => .str _))))

theorem d_bytes {P : Program} {w : World} {K : PySem.W.Frag} {mg : Str → Option Value} {base : Heap} (T : Tx K mg) (G_characters : Con P w K mg base CX0 1 ("_law_characters", none) [] (spF K 0 f_characters)) {cdv : Value} {A : Around} {outer : List PySem.Env} {s : Shared} {H : Hp} {E : XK} (hr : Room (1) (A.deeper (envOfC "_law_bytes" (defScope s_bytes) s.heap.objs.size (He.fAd K ("_law_bytes", none)) cdv))) :
    PSs (cxOf CX0 P w K mg base ["_law_values", "_law_data", "_law_value_here", "_law_chars", "_law_number", "_law_five", "_law_k", "_law_each"] "_law_bytes" (defScope s_bytes) (He.fAd K ("_law_bytes", none)) cdv A outer s H E).nox (defBody s_bytes) (tS K (fun _ => E0) fb_bytes) := by
  have nd : (["_law_values", "_law_data", "_law_value_here", "_law_chars", "_law_number", "_law_five", "_law_k", "_law_each"] : List Str).Nodup := sc_bytes.nd
  have hu := hu_of hr
  unfold fb_bytes
  exact (pps_cons (pp_set (n := 1) nd rfl (Or.inl rfl) (pp_lst false pp_nil))
  (pps_cons (pp_for (t := (.name 2)) PassesOwn.never rfl (pp_iSeq (pp_var 0)) (pg_name (i := 2) nd rfl (Or.inl rfl)) (pps_one (pp_if (pp_tru (pp_callB call_isi p_isi (by rfl) T.f_isinstance (by decide +kernel) (pp_cons (pp_var 2) (pp_cons (pp_c (pe_bltn (v := .ty "str") (by rfl) T.f_str (by decide +kernel) rfl) (fun _ _ _ => .ty _)) pp_nil)))) (pps_cons (pp_set (n := 3) nd rfl (Or.inr rfl) (pp_fcall0 G_characters (hr.mono (by decide)) (by rfl) T.g_characters passN))
  (pps_one (pp_set (n := 1) nd rfl (Or.inl rfl) (pp_op o_add (p_add false) (pp_op o_add (p_add false) (pp_op o_add (p_add false) (pp_var 1) (pp_lst false (pp_cons (pp_c pe_int (fun _ _ _ => .int _)) pp_nil))) (pp_lc false (own := [("_law_each", 7)]) (t := (.name 7)) rfl nd (pp_iSeq (pp_var 2)) (blkOk_by (N := ["_law_values", "_law_data", "_law_value_here", "_law_chars", "_law_number", "_law_five", "_law_k", "_law_each"]) (sc := (defScope s_bytes)) (by decide +kernel)) (by decide) (fun _ _ _ _ _ => (pg_name (i := 7) nd rfl (Or.inl rfl))) (fun _ _ _ _ _ => pp_tnil) (fun _ _ _ _ _ => (pp_op o_add (p_add false) (pp_op o_add (p_add false) (pp_c pe_int (fun _ _ _ => .int _)) (pp_index (pp_var 3) (pp_cons (pp_var 7) pp_nil))) (pp_callT cInt1 p_int (by rfl) T.f_int (by decide +kernel) (pp_cons (pp_cmp (op_cm .gt (u200 hr)) (p_cm .gt) (pp_index (pp_var 3) (pp_cons (pp_var 7) pp_nil)) (pp_c pe_int (fun _ _ _ => .int _)) (nomark _)) pp_nil)))))) (pp_lst false (pp_cons (pp_c pe_int (fun _ _ _ => .int _)) pp_nil)))))) (pps_cons (pp_set (n := 4) nd rfl (Or.inl rfl) (pp_op o_add (p_add false) (pp_var 2) (pp_c pe_int (fun _ _ _ => .int _))))
  (pps_cons (pp_set (n := 5) nd rfl (Or.inl rfl) (pp_lst false pp_nil))
  (pps_cons (pp_for (t := (.name 6)) PassesOwn.never rfl (pp_iR1 (by rfl) T.f_range (pp_cons (pp_c pe_int (fun _ _ _ => .int _)) pp_nil)) (pg_name (i := 6) nd rfl (Or.inl rfl)) (pps_cons (pp_set (n := 5) nd rfl (Or.inl rfl) (pp_op o_add (p_add false) (pp_lst false (pp_cons (pp_op oModI p_mod (pp_callT cInt1 p_int (by rfl) T.f_int (by decide +kernel) (pp_cons (pp_var 4) pp_nil)) (pp_c pe_int (fun _ _ _ => .int _))) pp_nil)) (pp_var 5)))
  (pps_one (pp_set (n := 4) nd rfl (Or.inl rfl) (pp_op oFdvI p_fdv (pp_var 4) (pp_c pe_int (fun _ _ _ => .int _)))))))
  (pps_one (pp_set (n := 1) nd rfl (Or.inl rfl) (pp_op o_add (p_add false) (pp_op o_add (p_add false) (pp_var 1) (pp_lst false (pp_cons (pp_c pe_int (fun _ _ _ => .int _)) pp_nil))) (pp_var 5))))))))))
  (pps_one (pp_ret (pp_callT cTupQ p_tuple (by rfl) T.f_tuple (by decide +kernel) (pp_cons (pp_var 1) pp_nil))))))

theorem d_read {P : Program} {w : World} {K : PySem.W.Frag} {mg : Str → Option Value} {base : Heap} (T : Tx K mg) (G_characters : Con P w K mg base CX0 1 ("_law_characters", none) [] (spF K 0 f_characters)) {cdv : Value} {A : Around} {outer : List PySem.Env} {s : Shared} {H : Hp} {E : XK} (hr : Room (1) (A.deeper (envOfC "_law_read" (defScope s_read) s.heap.objs.size (He.fAd K ("_law_read", none)) cdv))) :
    PSs (cxOf CX0 P w K mg base ["_law_key", "_law_values", "_law_at", "_law_turn", "_law_number", "_law_byte", "_law_codes", "_law_code"] "_law_read" (defScope s_read) (He.fAd K ("_law_read", none)) cdv A outer s H E).nox (defBody s_read) (tS K (fun _ => E0) fb_read) := by
  have nd : (["_law_key", "_law_values", "_law_at", "_law_turn", "_law_number", "_law_byte", "_law_codes", "_law_code"] : List Str).Nodup := sc_read.nd
  have hu := hu_of hr
  unfold fb_read
  exact (pps_cons (pp_set (n := 1) nd rfl (Or.inl rfl) (pp_lst true pp_nil))
  (pps_cons (pp_set (n := 2) nd rfl (Or.inl rfl) (pp_c pe_int (fun _ _ _ => .int _)))
  (pps_cons (pp_for (t := (.name 3)) PassesOwn.never rfl (pp_iR1 (by rfl) T.f_range (pp_cons (pp_callB c_len3 p_len (by rfl) T.f_len (by decide +kernel) (pp_cons (pp_var 0) pp_nil)) pp_nil)) (pg_name (i := 3) nd rfl (Or.inl rfl)) (pps_cons (pp_if (pp_tcmp (o_eq hr.units) p_eq (pp_var 2) (pp_callB c_len3 p_len (by rfl) T.f_len (by decide +kernel) (pp_cons (pp_var 0) pp_nil)) (nomark _)) (pps_one (pp_ret (pp_callT cTupQ p_tuple (by rfl) T.f_tuple (by decide +kernel) (pp_cons (pp_var 1) pp_nil)))) pps_nil)
  (pps_one (pp_if (PW.pt (pp_and (pp_tcmp (o_eq hr.units) p_eq (pp_ix (pp_var 0) (pp_var 2) (fun _ _ => rfl)) (pp_c pe_int (fun _ _ _ => .int _)) (nomark _)) (pp_and1 (pp_tcmp (op_cm .le (u200 hr)) (p_cm .le) (pp_op o_add (p_add false) (pp_var 2) (pp_c pe_int (fun _ _ _ => .int _))) (pp_callB c_len3 p_len (by rfl) T.f_len (by decide +kernel) (pp_cons (pp_var 0) pp_nil)) (nomark _))))) (pps_cons (pp_set (n := 4) nd rfl (Or.inl rfl) (pp_c pe_int (fun _ _ _ => .int _)))
  (pps_cons (pp_for (t := (.name 5)) PassesOwn.never rfl (pp_iSeq (pp_slice false (pp_var 0) (pp_part (pp_op o_add (p_add false) (pp_var 2) (pp_c pe_int (fun _ _ _ => .int _)))) (pp_part (pp_op o_add (p_add false) (pp_var 2) (pp_c pe_int (fun _ _ _ => .int _)))))) (pg_name (i := 5) nd rfl (Or.inl rfl)) (pps_one (pp_set (n := 4) nd rfl (Or.inl rfl) (pp_op o_add (p_add false) (pp_op o_mul (p_mul false) (pp_var 4) (pp_c pe_int (fun _ _ _ => .int _))) (pp_var 5)))))
  (pps_cons (pp_set (n := 4) nd rfl (Or.inl rfl) (pp_op oSubI p_sub (pp_var 4) (pp_c pe_int (fun _ _ _ => .int _))))
  (pps_cons (pp_if (pp_tcmp (op_cm .gt (u200 hr)) (p_cm .gt) (pp_callB cAbs1 p_abs (by rfl) T.f_abs (by decide +kernel) (pp_cons (pp_var 4) pp_nil)) (pp_op oPowI p_pow (pp_c pe_int (fun _ _ _ => .int _)) (pp_c pe_int (fun _ _ _ => .int _))) (nomark _)) (pps_one (pp_ret (pp_c pe_non (fun _ _ _ => .non)))) pps_nil)
  (pps_cons (pp_expr (pp_mt PySem.F.plainAttrs_list PySem.F.slot_list_append PySem.F.type_list_append mt_append ty_list p_append (pp_var 1) (pp_cons (pp_var 4) pp_nil)))
  (pps_one (pp_set (n := 2) nd rfl (Or.inl rfl) (pp_op o_add (p_add false) (pp_var 2) (pp_c pe_int (fun _ _ _ => .int _)))))))))) (pps_one (pp_if (PW.pt (pp_and (pp_tcmp (o_eq hr.units) p_eq (pp_ix (pp_var 0) (pp_var 2) (fun _ _ => rfl)) (pp_c pe_int (fun _ _ _ => .int _)) (nomark _)) (pp_and1 (pp_tcmp op_in_seq p_in (pp_c pe_int (fun _ _ _ => .int _)) (pp_slice false (pp_var 0) (pp_part (pp_var 2)) pp_nopart) (by rfl))))) (pps_cons (pp_set (n := 6) nd rfl (Or.inl rfl) (pp_slice false (pp_var 0) (pp_part (pp_op o_add (p_add false) (pp_var 2) (pp_c pe_int (fun _ _ _ => .int _)))) (pp_part (pp_op o_add (p_add false) (pp_var 2) (pp_index (pp_callT cListQ (p_list false) (by rfl) T.f_list (by decide +kernel) (pp_cons (pp_slice false (pp_var 0) (pp_part (pp_var 2)) pp_nopart) pp_nil)) (pp_cons (pp_c pe_int (fun _ _ _ => .int _)) pp_nil))))))
  (pps_cons (pp_if (PW.pt (pp_or (pp_tcmp (op_cm .gt (u200 hr)) (p_cm .gt) (pp_callB c_len3 p_len (by rfl) T.f_len (by decide +kernel) (pp_cons (pp_var 6) pp_nil)) (pp_c pe_int (fun _ _ _ => .int _)) (nomark _)) (pp_or1 (pp_tcmp (o_ne hr.units) p_ne (pp_lc false (own := [("_law_code", 7)]) (t := (.name 7)) rfl nd (pp_iSeq (pp_var 6)) (blkOk_by (N := ["_law_key", "_law_values", "_law_at", "_law_turn", "_law_number", "_law_byte", "_law_codes", "_law_code"]) (sc := (defScope s_read)) (by decide +kernel)) (by decide) (fun _ _ _ _ _ => (pg_name (i := 7) nd rfl (Or.inl rfl))) (fun _ _ _ _ _ => (pp_tone (PW.pt (pp_or (pp_tcmp (op_cm .lt (u200 hr)) (p_cm .lt) (pp_var 7) (pp_c pe_int (fun _ _ _ => .int _)) (nomark _)) (pp_or (pp_tcmp (o_eq hr.units) p_eq (pp_var 7) (pp_c pe_int (fun _ _ _ => .int _)) (nomark _)) (pp_or1 (pp_tcmp (op_cm .gt (u200 hr)) (p_cm .gt) (pp_var 7) (pp_c pe_int (fun _ _ _ => .int _)) (nomark _)))))))) (fun _ _ _ _ _ => (pp_var 7))) (pp_lst false pp_nil) (nomark _))))) (pps_one (pp_ret (pp_c pe_non (fun _ _ _ => .non)))) pps_nil)
  (pps_cons (pp_expr (pp_mt PySem.F.plainAttrs_list PySem.F.slot_list_append PySem.F.type_list_append mt_append ty_list p_append (pp_var 1) (pp_cons (pp_join (pp_c pe_str (fun _ _ _ => .str _)) (pp_lc false (own := [("_law_code", 7)]) (t := (.name 7)) rfl nd (pp_iSeq (pp_var 6)) (blkOk_by (N := ["_law_key", "_law_values", "_law_at", "_law_turn", "_law_number", "_law_byte", "_law_codes", "_law_code"]) (sc := (defScope s_read)) (by decide +kernel)) (by decide) (fun _ _ _ _ _ => (pg_name (i := 7) nd rfl (Or.inl rfl))) (fun _ _ _ _ _ => pp_tnil) (fun _ _ _ _ _ => (pp_ix (pp_fcall0 G_characters (hr.mono (by decide)) (by rfl) T.g_characters passN) (pp_op oSubI p_sub (pp_op oSubI p_sub (pp_var 7) (pp_c pe_int (fun _ _ _ => .int _))) (pp_callT cInt1 p_int (by rfl) T.f_int (by decide +kernel) (pp_cons (pp_cmp (op_cm .gt (u200 hr)) (p_cm .gt) (pp_var 7) (pp_c pe_int (fun _ _ _ => .int _)) (nomark _)) pp_nil))) (fun _ _ => rfl))))) pp_nil)))
  (pps_one (pp_set (n := 2) nd rfl (Or.inl rfl) (pp_op o_add (p_add false) (pp_op o_add (p_add false) (pp_var 2) (pp_callB c_len3 p_len (by rfl) T.f_len (by decide +kernel) (pp_cons (pp_var 6) pp_nil))) (pp_c pe_int (fun _ _ _ => .int _)))))))) (pps_one (pp_ret (pp_c pe_non (fun _ _ _ => .non))))))))))
  (pps_one (pp_ret (pp_ix (pp_lst false (pp_cons (pp_c pe_non (fun _ _ _ => .non)) (pp_cons (pp_callT cTupQ p_tuple (by rfl) T.f_tuple (by decide +kernel) (pp_cons (pp_var 1) pp_nil)) pp_nil))) (pp_callT cInt1 p_int (by rfl) T.f_int (by decide +kernel) (pp_cons (pp_cmp (o_eq hr.units) p_eq (pp_var 2) (pp_callB c_len3 p_len (by rfl) T.f_len (by decide +kernel) (pp_cons (pp_var 0) pp_nil)) (nomark _)) pp_nil)) (fun _ _ => rfl)))))))

theorem d_order {P : Program} {w : World} {K : PySem.W.Frag} {mg : Str → Option Value} {base : Heap} (T : Tx K mg) {cdv : Value} {A : Around} {outer : List PySem.Env} {s : Shared} {H : Hp} {E : XK} (hr : Room (0) (A.deeper (envOfC "_law_order" (defScope s_order) s.heap.objs.size (He.fAd K ("_law_order", none)) cdv))) :
    PSs (cxOf CX0 P w K mg base ["_law_first", "_law_second", "_law_k", "_law_kinds"] "_law_order" (defScope s_order) (He.fAd K ("_law_order", none)) cdv A outer s H E).nox (defBody s_order) (tS K (fun _ => E0) fb_order) := by
  have nd : (["_law_first", "_law_second", "_law_k", "_law_kinds"] : List Str).Nodup := sc_order.nd
  have hu := hu_of hr
  unfold fb_order
  exact (pps_cons (pp_for (t := (.name 2)) PassesOwn.never rfl (pp_iR1 (by rfl) T.f_range (pp_cons (pp_callB (c_min rfl hr.units) p_min (by rfl) T.f_min (by decide +kernel) (pp_cons (pp_callB c_len3 p_len (by rfl) T.f_len (by decide +kernel) (pp_cons (pp_var 0) pp_nil)) (pp_cons (pp_callB c_len3 p_len (by rfl) T.f_len (by decide +kernel) (pp_cons (pp_var 1) pp_nil)) pp_nil))) pp_nil)) (pg_name (i := 2) nd rfl (Or.inl rfl)) (pps_cons (pp_set (n := 3) nd rfl (Or.inl rfl) (pp_lst false (pp_cons (pp_callB call_isi p_isi (by rfl) T.f_isinstance (by decide +kernel) (pp_cons (pp_ix (pp_var 0) (pp_var 2) (fun _ _ => rfl)) (pp_cons (pp_c (pe_bltn (v := .ty "str") (by rfl) T.f_str (by decide +kernel) rfl) (fun _ _ _ => .ty _)) pp_nil))) (pp_cons (pp_callB call_isi p_isi (by rfl) T.f_isinstance (by decide +kernel) (pp_cons (pp_ix (pp_var 1) (pp_var 2) (fun _ _ => rfl)) (pp_cons (pp_c (pe_bltn (v := .ty "str") (by rfl) T.f_str (by decide +kernel) rfl) (fun _ _ _ => .ty _)) pp_nil))) pp_nil))))
  (pps_cons (pp_if (pp_tcmp (o_ne hr.units) p_ne (pp_ix (pp_var 3) (pp_c pe_int (fun _ _ _ => .int _)) (fun _ _ => rfl)) (pp_ix (pp_var 3) (pp_c pe_int (fun _ _ _ => .int _)) (fun _ _ => rfl)) (nomark _)) (pps_one (pp_ret (pp_op oSubI p_sub (pp_c pe_int (fun _ _ _ => .int _)) (pp_op o_mul (p_mul false) (pp_c pe_int (fun _ _ _ => .int _)) (pp_callT cInt1 p_int (by rfl) T.f_int (by decide +kernel) (pp_cons (pp_ix (pp_var 3) (pp_c pe_int (fun _ _ _ => .int _)) (fun _ _ => rfl)) pp_nil)))))) pps_nil)
  (pps_one (pp_if (pp_tcmp (o_ne hr.units) p_ne (pp_ix (pp_var 0) (pp_var 2) (fun _ _ => rfl)) (pp_ix (pp_var 1) (pp_var 2) (fun _ _ => rfl)) (nomark _)) (pps_one (pp_ret (pp_op oSubI p_sub (pp_c pe_int (fun _ _ _ => .int _)) (pp_op o_mul (p_mul false) (pp_c pe_int (fun _ _ _ => .int _)) (pp_callT cInt1 p_int (by rfl) T.f_int (by decide +kernel) (pp_cons (pp_cmp (op_cm .lt (u200 hr)) (p_cm .lt) (pp_ix (pp_var 0) (pp_var 2) (fun _ _ => rfl)) (pp_ix (pp_var 1) (pp_var 2) (fun _ _ => rfl)) (nomark _)) pp_nil)))))) pps_nil)))))
  (pps_one (pp_ret (pp_op oSubI p_sub (pp_callT cInt1 p_int (by rfl) T.f_int (by decide +kernel) (pp_cons (pp_cmp (op_cm .gt (u200 hr)) (p_cm .gt) (pp_callB c_len3 p_len (by rfl) T.f_len (by decide +kernel) (pp_cons (pp_var 0) pp_nil)) (pp_callB c_len3 p_len (by rfl) T.f_len (by decide +kernel) (pp_cons (pp_var 1) pp_nil)) (nomark _)) pp_nil)) (pp_callT cInt1 p_int (by rfl) T.f_int (by decide +kernel) (pp_cons (pp_cmp (op_cm .lt (u200 hr)) (p_cm .lt) (pp_callB c_len3 p_len (by rfl) T.f_len (by decide +kernel) (pp_cons (pp_var 0) pp_nil)) (pp_callB c_len3 p_len (by rfl) T.f_len (by decide +kernel) (pp_cons (pp_var 1) pp_nil)) (nomark _)) pp_nil))))))

theorem d_agrees {P : Program} {w : World} {K : PySem.W.Frag} {mg : Str → Option Value} {base : Heap} (T : Tx K mg) {cdv : Value} {A : Around} {outer : List PySem.Env} {s : Shared} {H : Hp} {E : XK} (hr : Room (0) (A.deeper (envOfC "_law_agrees" (defScope s_agrees) s.heap.objs.size (He.fAd K ("_law_agrees", none)) cdv))) :
    PSs (cxOf CX0 P w K mg base ["_law_left", "_law_right", "_law_order_here"] "_law_agrees" (defScope s_agrees) (He.fAd K ("_law_agrees", none)) cdv A outer s H E).nox (defBody s_agrees) (tS K (fun _ => E0) fb_agrees) := by
  have nd : (["_law_left", "_law_right", "_law_order_here"] : List Str).Nodup := sc_agrees.nd
  have hu := hu_of hr
  unfold fb_agrees
  exact (pps_cons (pp_if (PW.pt (pp_or (pp_not (pp_tru (pp_callB call_isi p_isi (by rfl) T.f_isinstance (by decide +kernel) (pp_cons (pp_var 0) (pp_cons (pp_c (pe_bltn (v := .ty "tuple") (by rfl) T.f_tuple (by decide +kernel) rfl) (fun _ _ _ => .ty _)) pp_nil))))) (pp_or1 (pp_not (pp_tru (pp_callB call_isi p_isi (by rfl) T.f_isinstance (by decide +kernel) (pp_cons (pp_var 1) (pp_cons (pp_c (pe_bltn (v := .ty "tuple") (by rfl) T.f_tuple (by decide +kernel) rfl) (fun _ _ _ => .ty _)) pp_nil)))))))) (pps_one (pp_ret (pp_c pe_bl (fun _ _ _ => .bl _)))) pps_nil)
  (pps_one (pp_ret (pp_cmp (o_eq hr.units) p_eq (pp_lst false (pp_cons (pp_cmp (op_cm .lt (u200 hr)) (p_cm .lt) (pp_var 0) (pp_var 1) (nomark _)) (pp_cons (pp_cmp (o_eq hr.units) p_eq (pp_var 0) (pp_var 1) (nomark _)) (pp_cons (pp_cmp (op_cm .gt (u200 hr)) (p_cm .gt) (pp_var 0) (pp_var 1) (nomark _)) pp_nil)))) (pp_lst false (pp_cons (pp_cmp (op_cm .lt (u200 hr)) (p_cm .lt) (pp_var 2) (pp_c pe_int (fun _ _ _ => .int _)) (nomark _)) (pp_cons (pp_cmp (o_eq hr.units) p_eq (pp_var 2) (pp_c pe_int (fun _ _ _ => .int _)) (nomark _)) (pp_cons (pp_cmp (op_cm .gt (u200 hr)) (p_cm .gt) (pp_var 2) (pp_c pe_int (fun _ _ _ => .int _)) (nomark _)) pp_nil)))) (nomark _)))))

theorem d_ranges {P : Program} {w : World} {K : PySem.W.Frag} {mg : Str → Option Value} {base : Heap} (T : Tx K mg) (G_same : Con P w K mg base CX0 4 ("_law_same", none) ["_law_actual", "_law_expected"] (spF K 2 (f_same 4))) (G_meet : Con P w K mg base CX0 1 ("meet", none) ["first", "second"] (spF K 2 f_meet)) (G_is_in : Con P w K mg base CX0 1 ("is_in", none) ["key", "span"] (spF K 2 f_is_in)) {cdv : Value} {A : Around} {outer : List PySem.Env} {s : Shared} {H : Hp} {E : XK} (hr : Room (4) (A.deeper (envOfC "_law_ranges" (defScope s_ranges) s.heap.objs.size (He.fAd K ("_law_ranges", none)) cdv))) :
    PSs (cxOf CX0 P w K mg base ["_law_keys", "_law_strange", "_law_spans", "_law_low", "_law_first", "_law_second", "_law_high", "_law_key"] "_law_ranges" (defScope s_ranges) (He.fAd K ("_law_ranges", none)) cdv A outer s H E).nox (defBody s_ranges) (tS K (fun _ => E0) fb_ranges) := by
  have nd : (["_law_keys", "_law_strange", "_law_spans", "_law_low", "_law_first", "_law_second", "_law_high", "_law_key"] : List Str).Nodup := sc_ranges.nd
  have hu := hu_of hr
  unfold fb_ranges
  exact (pps_cons (pp_set (n := 2) nd rfl (Or.inl rfl) (pp_lst false (pp_cons (pp_tup (pp_cons (pp_tup pp_nil) (pp_cons (pp_tup (pp_cons (pp_c pe_int (fun _ _ _ => .int _)) pp_nil)) pp_nil))) (pp_cons (pp_tup (pp_cons (pp_ix (pp_var 0) (pp_c pe_int (fun _ _ _ => .int _)) (fun _ _ => rfl)) (pp_cons (pp_ix (pp_var 0) (pp_c pe_int (fun _ _ _ => .int _)) (fun _ _ => rfl)) pp_nil))) pp_nil))))
  (pps_cons (pp_for (t := (.name 3)) PassesOwn.never rfl (pp_iSeq (pp_var 0)) (pg_name (i := 3) nd rfl (Or.inl rfl)) (pps_one (pp_set (n := 2) nd rfl (Or.inl rfl) (pp_op o_add (p_add false) (pp_var 2) (pp_lst false (pp_cons (pp_tup (pp_cons (pp_var 3) (pp_cons (pp_op o_add (p_add false) (pp_var 3) (pp_tup (pp_cons (pp_c pe_int (fun _ _ _ => .int _)) pp_nil))) pp_nil))) (pp_cons (pp_tup (pp_cons (pp_var 3) (pp_cons (pp_op o_add (p_add false) (pp_var 3) (pp_tup (pp_cons (pp_c pe_int (fun _ _ _ => .int _)) pp_nil))) pp_nil))) (pp_cons (pp_tup (pp_cons (pp_var 3) (pp_cons (pp_ix (pp_var 0) (pp_c pe_int (fun _ _ _ => .int _)) (fun _ _ => rfl)) pp_nil))) pp_nil))))))))
  (pps_cons (pp_for (t := (.name 3)) PassesOwn.never rfl (pp_iSeq (pp_slice false (pp_var 1) pp_nopart (pp_part (pp_c pe_int (fun _ _ _ => .int _))))) (pg_name (i := 3) nd rfl (Or.inl rfl)) (pps_one (pp_set (n := 2) nd rfl (Or.inl rfl) (pp_op o_add (p_add false) (pp_var 2) (pp_lst false (pp_cons (pp_tup (pp_cons (pp_var 3) (pp_cons (pp_tup (pp_cons (pp_c pe_int (fun _ _ _ => .int _)) pp_nil)) pp_nil))) (pp_cons (pp_tup (pp_cons (pp_tup pp_nil) (pp_cons (pp_var 3) pp_nil))) (pp_cons (pp_tup (pp_cons (pp_var 3) (pp_cons (pp_op o_add (p_add false) (pp_var 3) (pp_tup (pp_cons (pp_c pe_int (fun _ _ _ => .int _)) pp_nil))) pp_nil))) pp_nil))))))))
  (pps_cons (pp_for (t := (.name 4)) PassesOwn.never rfl (pp_iSeq (pp_var 2)) (pg_name (i := 4) nd rfl (Or.inl rfl)) (pps_cons (pp_for (t := (.name 5)) PassesOwn.never rfl (pp_iSeq (pp_var 2)) (pg_name (i := 5) nd rfl (Or.inl rfl)) (pps_cons (pp_set (n := 3) nd rfl (Or.inl rfl) (pp_callB (c_max rfl hr.units) p_max (by rfl) T.f_max (by decide +kernel) (pp_cons (pp_ix (pp_var 4) (pp_c pe_int (fun _ _ _ => .int _)) (fun _ _ => rfl)) (pp_cons (pp_ix (pp_var 5) (pp_c pe_int (fun _ _ _ => .int _)) (fun _ _ => rfl)) pp_nil))))
  (pps_cons (pp_set (n := 6) nd rfl (Or.inl rfl) (pp_callB (c_min rfl hr.units) p_min (by rfl) T.f_min (by decide +kernel) (pp_cons (pp_ix (pp_var 4) (pp_c pe_int (fun _ _ _ => .int _)) (fun _ _ => rfl)) (pp_cons (pp_ix (pp_var 5) (pp_c pe_int (fun _ _ _ => .int _)) (fun _ _ => rfl)) pp_nil))))
  (pps_one (pp_if (pp_not (pp_tru (pp_fcall G_same (hr.mono (by decide)) (by rfl) T.g_same passN (pp_cons (pp_fcall G_meet (hr.mono (by decide)) (by rfl) T.g_meet passN (pp_cons (pp_var 4) (pp_cons (pp_var 5) pp_nil))) (pp_cons (pp_cmp (op_cm .lt (u200 hr)) (p_cm .lt) (pp_var 3) (pp_var 6) (nomark _)) pp_nil))))) (pps_one (pp_ret (pp_c pe_bl (fun _ _ _ => .bl _)))) pps_nil)))))
  (pps_one (pp_for (t := (.name 7)) PassesOwn.never rfl (pp_iSeq (pp_op o_add (p_add false) (pp_var 0) (pp_var 1))) (pg_name (i := 7) nd rfl (Or.inl rfl)) (pps_one (pp_if (pp_not (pp_tru (pp_fcall G_same (hr.mono (by decide)) (by rfl) T.g_same passN (pp_cons (pp_fcall G_is_in (hr.mono (by decide)) (by rfl) T.g_is_in passN (pp_cons (pp_var 7) (pp_cons (pp_var 4) pp_nil))) (pp_cons (pp_andV (pp_cmp (op_cm .le (u200 hr)) (p_cm .le) (pp_ix (pp_var 4) (pp_c pe_int (fun _ _ _ => .int _)) (fun _ _ => rfl)) (pp_var 7) (nomark _)) (pp_one (pp_cmp (op_cm .lt (u200 hr)) (p_cm .lt) (pp_var 7) (pp_ix (pp_var 4) (pp_c pe_int (fun _ _ _ => .int _)) (fun _ _ => rfl)) (nomark _)))) pp_nil))))) (pps_one (pp_ret (pp_c pe_bl (fun _ _ _ => .bl _)))) pps_nil))))))
  (pps_one (pp_ret (pp_c pe_bl (fun _ _ _ => .bl _))))))))

theorem d_law {P : Program} {w : World} {K : PySem.W.Frag} {mg : Str → Option Value} {base : Heap} (T : Tx K mg) (G_next : Con P w K mg base CX0 1 ("_law_next", none) ["_law_state", "_law_limit"] (spF K 2 f_next)) (G_value : Con P w K mg base CX0 2 ("_law_value", none) ["_law_state"] (spF K 1 f_value)) (G_bytes : Con P w K mg base CX0 2 ("_law_bytes", none) ["_law_values"] (spF K 1 f_bytes)) (G_same : Con P w K mg base CX0 4 ("_law_same", none) ["_law_actual", "_law_expected"] (spF K 2 (f_same 4))) (G_key_of : Con P w K mg base CX0 2 ("key_of", none) ["values"] (spF K 1 f_key_of)) (G_values_of : Con P w K mg base CX0 3 ("values_of", none) ["key"] (spF K 1 f_values_of)) (G_prefix_range : Con P w K mg base CX0 1 ("prefix_range", none) ["key"] (spF K 1 f_prefix_range)) (G_order : Con P w K mg base CX0 1 ("_law_order", none) ["_law_first", "_law_second"] (spF K 2 f_order)) (G_agrees : Con P w K mg base CX0 1 ("_law_agrees", none) ["_law_left", "_law_right", "_law_order_here"] (spF K 3 f_agrees)) (G_row_order : Con P w K mg base CX0 1 ("row_order", none) ["values"] (spF K 1 f_row_order)) (G_is_in : Con P w K mg base CX0 1 ("is_in", none) ["key", "span"] (spF K 2 f_is_in)) (G_read : Con P w K mg base CX0 2 ("_law_read", none) ["_law_key"] (spF K 1 f_read)) (G_ranges : Con P w K mg base CX0 5 ("_law_ranges", none) ["_law_keys", "_law_strange"] (spF K 2 f_ranges)) {cdv : Value} {A : Around} {outer : List PySem.Env} {s : Shared} {H : Hp} {E : XK} (hr : Room (5) (A.deeper (envOfC "law" (defScope s_law) s.heap.objs.size (He.fAd K ("law", none)) cdv))) :
    PSs (cxOf CX0 P w K mg base ["_law_script", "_law_state", "_law_k", "_law_j", "_law_rows", "_law_keys", "_law_order_here", "_law_strange", "_law_key", "_law_at", "_law_byte", "_law_drawn", "_law_other", "_law_row"] "law" (defScope s_law) (He.fAd K ("law", none)) cdv A outer s H E).nox (defBody s_law) (tS K (fun _ => E0) fb_law) := by
  have nd : (["_law_script", "_law_state", "_law_k", "_law_j", "_law_rows", "_law_keys", "_law_order_here", "_law_strange", "_law_key", "_law_at", "_law_byte", "_law_drawn", "_law_other", "_law_row"] : List Str).Nodup := sc_law.nd
  have hu := hu_of hr
  unfold fb_law
  exact (pps_cons (pp_set (n := 1) nd rfl (Or.inr rfl) (pp_lst true (pp_cons (pp_callT cListQ (p_list false) (by rfl) T.f_list (by decide +kernel) (pp_cons (pp_var 0) pp_nil)) (pp_cons (pp_c pe_int (fun _ _ _ => .int _)) (pp_cons (pp_c pe_int (fun _ _ _ => .int _)) (pp_cons (pp_c pe_int (fun _ _ _ => .int _)) pp_nil))))))
  (pps_cons (pp_setLc (i := 4) true (own := [("_law_k", 2)]) (t := (.name 2)) rfl nd rfl rfl (sw_true rfl rfl rfl (by decide +kernel)) (pp_iR1 (by rfl) T.f_range (pp_cons (pp_op o_add (p_add false) (pp_c pe_int (fun _ _ _ => .int _)) (pp_fcall G_next (hr.mono (by decide)) (by rfl) T.g_next passN (pp_cons (pp_var 1) (pp_cons (pp_c pe_int (fun _ _ _ => .int _)) pp_nil)))) pp_nil)) (blkOk_by (N := ["_law_script", "_law_state", "_law_k", "_law_j", "_law_rows", "_law_keys", "_law_order_here", "_law_strange", "_law_key", "_law_at", "_law_byte", "_law_drawn", "_law_other", "_law_row"]) (sc := (defScope s_law)) (by decide +kernel)) (by decide) (fun _ _ _ _ _ => (pg_name (i := 2) nd rfl (Or.inl rfl))) (fun _ _ _ _ _ => pp_tnil) (fun _ _ _ _ _ => (pp_callT cTupQ p_tuple (by rfl) T.f_tuple (by decide +kernel) (pp_cons (pp_lc false (own := [("_law_j", 3)]) (t := (.name 3)) rfl nd (pp_iR1 (by rfl) T.f_range (pp_cons (pp_fcall G_next (hr.mono (by decide)) (by rfl) T.g_next passN (pp_cons (pp_var 1) (pp_cons (pp_c pe_int (fun _ _ _ => .int _)) pp_nil))) pp_nil)) (blkOk_by (N := ["_law_script", "_law_state", "_law_k", "_law_j", "_law_rows", "_law_keys", "_law_order_here", "_law_strange", "_law_key", "_law_at", "_law_byte", "_law_drawn", "_law_other", "_law_row"]) (sc := (⟨.function, [(".0", .local), ("_law_k", .local), ("tuple", .globalImplicit), ("range", .globalImplicit), ("_law_next", .globalImplicit), ("_law_state", .cell)], false, false, []⟩ : Scope)) (by decide +kernel)) (by decide) (fun _ _ _ _ _ => (pg_name (i := 3) nd rfl (Or.inl rfl))) (fun _ _ _ _ _ => pp_tnil) (fun _ _ _ _ _ => (pp_fcall G_value (hr.mono (by decide)) (by rfl) T.g_value passN (pp_cons (pp_var 1) pp_nil)))) pp_nil))))
  (pps_cons (pp_if (pp_tcmp (op_cm .gt (u200 hr)) (p_cm .gt) (pp_callB c_len3 p_len (by rfl) T.f_len (by decide +kernel) (pp_cons (pp_var 4) pp_nil)) (pp_c pe_int (fun _ _ _ => .int _)) (nomark _)) (pps_one (pp_setS (pp_var 4) (pp_c pe_int (fun _ _ _ => .int _)) (pp_op o_add (p_add false) (pp_slice false (pp_ix (pp_var 4) (pp_c pe_int (fun _ _ _ => .int _)) (fun _ _ => rfl)) pp_nopart (pp_part (pp_c pe_int (fun _ _ _ => .int _)))) (pp_callT cTupQ p_tuple (by rfl) T.f_tuple (by decide +kernel) (pp_cons (pp_lc false (own := [("_law_j", 3)]) (t := (.name 3)) rfl nd (pp_iR1 (by rfl) T.f_range (pp_cons (pp_fcall G_next (hr.mono (by decide)) (by rfl) T.g_next passN (pp_cons (pp_var 1) (pp_cons (pp_c pe_int (fun _ _ _ => .int _)) pp_nil))) pp_nil)) (blkOk_by (N := ["_law_script", "_law_state", "_law_k", "_law_j", "_law_rows", "_law_keys", "_law_order_here", "_law_strange", "_law_key", "_law_at", "_law_byte", "_law_drawn", "_law_other", "_law_row"]) (sc := (defScope s_law)) (by decide +kernel)) (by decide) (fun _ _ _ _ _ => (pg_name (i := 3) nd rfl (Or.inl rfl))) (fun _ _ _ _ _ => pp_tnil) (fun _ _ _ _ _ => (pp_fcall G_value (hr.mono (by decide)) (by rfl) T.g_value passN (pp_cons (pp_var 1) pp_nil)))) pp_nil))))) pps_nil)
  (pps_cons (pp_setLc (i := 5) false (own := [("_law_row", 13)]) (t := (.name 13)) rfl nd rfl rfl (sw_true rfl rfl rfl (by decide +kernel)) (pp_iSeq (pp_var 4)) (blkOk_by (N := ["_law_script", "_law_state", "_law_k", "_law_j", "_law_rows", "_law_keys", "_law_order_here", "_law_strange", "_law_key", "_law_at", "_law_byte", "_law_drawn", "_law_other", "_law_row"]) (sc := (defScope s_law)) (by decide +kernel)) (by decide) (fun _ _ _ _ _ => (pg_name (i := 13) nd rfl (Or.inl rfl))) (fun _ _ _ _ _ => pp_tnil) (fun _ _ _ _ _ => (pp_fcall G_bytes (hr.mono (by decide)) (by rfl) T.g_bytes passN (pp_cons (pp_var 13) pp_nil))))
  (pps_cons (pp_for (t := (.name 2)) PassesOwn.never rfl (pp_iR1 (by rfl) T.f_range (pp_cons (pp_callB c_len3 p_len (by rfl) T.f_len (by decide +kernel) (pp_cons (pp_var 4) pp_nil)) pp_nil)) (pg_name (i := 2) nd rfl (Or.inl rfl)) (pps_cons (pp_if (PW.pt (pp_or (pp_not (pp_tru (pp_fcall G_same (hr.mono (by decide)) (by rfl) T.g_same passN (pp_cons (pp_fcall G_key_of (hr.mono (by decide)) (by rfl) T.g_key_of passN (pp_cons (pp_ix (pp_var 4) (pp_var 2) (fun _ _ => rfl)) pp_nil)) (pp_cons (pp_ix (pp_var 5) (pp_var 2) (fun _ _ => rfl)) pp_nil))))) (pp_or1 (pp_not (pp_tru (pp_fcall G_same (hr.mono (by decide)) (by rfl) T.g_same passN (pp_cons (pp_fcall G_values_of (hr.mono (by decide)) (by rfl) T.g_values_of passN (pp_cons (pp_ix (pp_var 5) (pp_var 2) (fun _ _ => rfl)) pp_nil)) (pp_cons (pp_ix (pp_var 4) (pp_var 2) (fun _ _ => rfl)) pp_nil)))))))) (pps_one (pp_ret (pp_c pe_bl (fun _ _ _ => .bl _)))) pps_nil)
  (pps_cons (pp_if (pp_not (pp_tru (pp_fcall G_same (hr.mono (by decide)) (by rfl) T.g_same passN (pp_cons (pp_fcall G_prefix_range (hr.mono (by decide)) (by rfl) T.g_prefix_range passN (pp_cons (pp_ix (pp_var 5) (pp_var 2) (fun _ _ => rfl)) pp_nil)) (pp_cons (pp_tup (pp_cons (pp_ix (pp_var 5) (pp_var 2) (fun _ _ => rfl)) (pp_cons (pp_op o_add (p_add false) (pp_ix (pp_var 5) (pp_var 2) (fun _ _ => rfl)) (pp_tup (pp_cons (pp_c pe_int (fun _ _ _ => .int _)) pp_nil))) pp_nil))) pp_nil))))) (pps_one (pp_ret (pp_c pe_bl (fun _ _ _ => .bl _)))) pps_nil)
  (pps_one (pp_for (t := (.name 3)) PassesOwn.never rfl (pp_iR1 (by rfl) T.f_range (pp_cons (pp_callB c_len3 p_len (by rfl) T.f_len (by decide +kernel) (pp_cons (pp_var 4) pp_nil)) pp_nil)) (pg_name (i := 3) nd rfl (Or.inl rfl)) (pps_cons (pp_set (n := 6) nd rfl (Or.inl rfl) (pp_fcall G_order (hr.mono (by decide)) (by rfl) T.g_order passN (pp_cons (pp_ix (pp_var 4) (pp_var 2) (fun _ _ => rfl)) (pp_cons (pp_ix (pp_var 4) (pp_var 3) (fun _ _ => rfl)) pp_nil))))
  (pps_cons (pp_if (PW.pt (pp_or (pp_not (pp_tru (pp_fcall G_agrees (hr.mono (by decide)) (by rfl) T.g_agrees passN (pp_cons (pp_fcall G_key_of (hr.mono (by decide)) (by rfl) T.g_key_of passN (pp_cons (pp_ix (pp_var 4) (pp_var 2) (fun _ _ => rfl)) pp_nil)) (pp_cons (pp_fcall G_key_of (hr.mono (by decide)) (by rfl) T.g_key_of passN (pp_cons (pp_ix (pp_var 4) (pp_var 3) (fun _ _ => rfl)) pp_nil)) (pp_cons (pp_var 6) pp_nil)))))) (pp_or1 (pp_not (pp_tru (pp_fcall G_agrees (hr.mono (by decide)) (by rfl) T.g_agrees passN (pp_cons (pp_fcall G_row_order (hr.mono (by decide)) (by rfl) T.g_row_order passN (pp_cons (pp_ix (pp_var 4) (pp_var 2) (fun _ _ => rfl)) pp_nil)) (pp_cons (pp_fcall G_row_order (hr.mono (by decide)) (by rfl) T.g_row_order passN (pp_cons (pp_ix (pp_var 4) (pp_var 3) (fun _ _ => rfl)) pp_nil)) (pp_cons (pp_var 6) pp_nil))))))))) (pps_one (pp_ret (pp_c pe_bl (fun _ _ _ => .bl _)))) pps_nil)
  (pps_one (pp_if (pp_tcmp (o_ne hr.units) p_ne (pp_fcall G_is_in (hr.mono (by decide)) (by rfl) T.g_is_in passN (pp_cons (pp_ix (pp_var 5) (pp_var 3) (fun _ _ => rfl)) (pp_cons (pp_fcall G_prefix_range (hr.mono (by decide)) (by rfl) T.g_prefix_range passN (pp_cons (pp_ix (pp_var 5) (pp_var 2) (fun _ _ => rfl)) pp_nil)) pp_nil))) (pp_cmp (o_eq hr.units) p_eq (pp_slice false (pp_ix (pp_var 4) (pp_var 3) (fun _ _ => rfl)) pp_nopart (pp_part (pp_callB c_len3 p_len (by rfl) T.f_len (by decide +kernel) (pp_cons (pp_ix (pp_var 4) (pp_var 2) (fun _ _ => rfl)) pp_nil)))) (pp_ix (pp_var 4) (pp_var 2) (fun _ _ => rfl)) (nomark _)) (nomark _)) (pps_one (pp_ret (pp_c pe_bl (fun _ _ _ => .bl _)))) pps_nil)))))))))
  (pps_cons (pp_set (n := 7) nd rfl (Or.inl rfl) (pp_lst false pp_nil))
  (pps_cons (pp_for (t := (.name 2)) PassesOwn.never rfl (pp_iR1 (by rfl) T.f_range (pp_cons (pp_c pe_int (fun _ _ _ => .int _)) pp_nil)) (pg_name (i := 2) nd rfl (Or.inl rfl)) (pps_cons (pp_set (n := 8) nd rfl (Or.inl rfl) (pp_callT cListQ (p_list false) (by rfl) T.f_list (by decide +kernel) (pp_cons (pp_ix (pp_var 5) (pp_fcall G_next (hr.mono (by decide)) (by rfl) T.g_next passN (pp_cons (pp_var 1) (pp_cons (pp_callB c_len3 p_len (by rfl) T.f_len (by decide +kernel) (pp_cons (pp_var 5) pp_nil)) pp_nil))) (fun _ _ => rfl)) pp_nil)))
  (pps_cons (pp_set (n := 9) nd rfl (Or.inl rfl) (pp_fcall G_next (hr.mono (by decide)) (by rfl) T.g_next passN (pp_cons (pp_var 1) (pp_cons (pp_op o_add (p_add false) (pp_callB c_len3 p_len (by rfl) T.f_len (by decide +kernel) (pp_cons (pp_var 8) pp_nil)) (pp_c pe_int (fun _ _ _ => .int _))) pp_nil))))
  (pps_cons (pp_set (n := 10) nd rfl (Or.inl rfl) (pp_ix (pp_lst false (pp_cons (pp_fcall G_next (hr.mono (by decide)) (by rfl) T.g_next passN (pp_cons (pp_var 1) (pp_cons (pp_c pe_int (fun _ _ _ => .int _)) pp_nil))) (pp_cons (pp_fcall G_next (hr.mono (by decide)) (by rfl) T.g_next passN (pp_cons (pp_var 1) (pp_cons (pp_c pe_int (fun _ _ _ => .int _)) pp_nil))) pp_nil))) (pp_fcall G_next (hr.mono (by decide)) (by rfl) T.g_next passN (pp_cons (pp_var 1) (pp_cons (pp_c pe_int (fun _ _ _ => .int _)) pp_nil))) (fun _ _ => rfl)))
  (pps_cons (pp_set (n := 11) nd rfl (Or.inl rfl) (pp_callT cTupQ p_tuple (by rfl) T.f_tuple (by decide +kernel) (pp_cons (pp_lc false (own := [("_law_j", 3)]) (t := (.name 3)) rfl nd (pp_iR1 (by rfl) T.f_range (pp_cons (pp_fcall G_next (hr.mono (by decide)) (by rfl) T.g_next passN (pp_cons (pp_var 1) (pp_cons (pp_c pe_int (fun _ _ _ => .int _)) pp_nil))) pp_nil)) (blkOk_by (N := ["_law_script", "_law_state", "_law_k", "_law_j", "_law_rows", "_law_keys", "_law_order_here", "_law_strange", "_law_key", "_law_at", "_law_byte", "_law_drawn", "_law_other", "_law_row"]) (sc := (defScope s_law)) (by decide +kernel)) (by decide) (fun _ _ _ _ _ => (pg_name (i := 3) nd rfl (Or.inl rfl))) (fun _ _ _ _ _ => pp_tnil) (fun _ _ _ _ _ => (pp_ix (pp_lst false (pp_cons (pp_fcall G_next (hr.mono (by decide)) (by rfl) T.g_next passN (pp_cons (pp_var 1) (pp_cons (pp_c pe_int (fun _ _ _ => .int _)) pp_nil))) (pp_cons (pp_fcall G_next (hr.mono (by decide)) (by rfl) T.g_next passN (pp_cons (pp_var 1) (pp_cons (pp_c pe_int (fun _ _ _ => .int _)) pp_nil))) pp_nil))) (pp_fcall G_next (hr.mono (by decide)) (by rfl) T.g_next passN (pp_cons (pp_var 1) (pp_cons (pp_c pe_int (fun _ _ _ => .int _)) pp_nil))) (fun _ _ => rfl)))) pp_nil)))
  (pps_cons (pp_for (t := (.name 12)) PassesOwn.never rfl (pp_iSeq (pp_lst false (pp_cons (pp_callT cTupQ p_tuple (by rfl) T.f_tuple (by decide +kernel) (pp_cons (pp_op o_add (p_add false) (pp_op o_add (p_add false) (pp_slice false (pp_var 8) pp_nopart (pp_part (pp_var 9))) (pp_lst false (pp_cons (pp_var 10) pp_nil))) (pp_slice false (pp_var 8) (pp_part (pp_op o_add (p_add false) (pp_var 9) (pp_c pe_int (fun _ _ _ => .int _)))) pp_nopart)) pp_nil)) (pp_cons (pp_callT cTupQ p_tuple (by rfl) T.f_tuple (by decide +kernel) (pp_cons (pp_op o_add (p_add false) (pp_op o_add (p_add false) (pp_slice false (pp_var 8) pp_nopart (pp_part (pp_var 9))) (pp_lst false (pp_cons (pp_var 10) pp_nil))) (pp_slice false (pp_var 8) (pp_part (pp_var 9)) pp_nopart)) pp_nil)) (pp_cons (pp_callT cTupQ p_tuple (by rfl) T.f_tuple (by decide +kernel) (pp_cons (pp_slice false (pp_var 8) pp_nopart (pp_part (pp_var 9))) pp_nil)) (pp_cons (pp_var 11) pp_nil)))))) (pg_name (i := 12) nd rfl (Or.inl rfl)) (pps_one (pp_if (pp_not (pp_tru (pp_fcall G_same (hr.mono (by decide)) (by rfl) T.g_same passN (pp_cons (pp_fcall G_values_of (hr.mono (by decide)) (by rfl) T.g_values_of passN (pp_cons (pp_var 12) pp_nil)) (pp_cons (pp_fcall G_read (hr.mono (by decide)) (by rfl) T.g_read passN (pp_cons (pp_var 12) pp_nil)) pp_nil))))) (pps_one (pp_ret (pp_c pe_bl (fun _ _ _ => .bl _)))) pps_nil)))
  (pps_one (pp_set (n := 7) nd rfl (Or.inl rfl) (pp_op o_add (p_add false) (pp_var 7) (pp_lst false (pp_cons (pp_var 11) (pp_cons (pp_callT cTupQ p_tuple (by rfl) T.f_tuple (by decide +kernel) (pp_cons (pp_op o_add (p_add false) (pp_op o_add (p_add false) (pp_slice false (pp_var 8) pp_nopart (pp_part (pp_var 9))) (pp_lst false (pp_cons (pp_var 10) pp_nil))) (pp_slice false (pp_var 8) (pp_part (pp_var 9)) pp_nopart)) pp_nil)) pp_nil))))))))))))
  (pps_one (pp_ret (pp_fcall G_ranges (hr.mono (by decide)) (by rfl) T.g_ranges passN (pp_cons (pp_var 5) (pp_cons (pp_slice false (pp_var 7) pp_nopart (pp_part (pp_c pe_int (fun _ _ _ => .int _)))) pp_nil))))))))))))
end
/-! C -/
section
open PySem PySem.Spec PyProof.Rows
section
variable {P : Program} {w : World} {K : PySem.W.Frag} {mg : Str → Option Value} {base : Heap}
theorem con_bytes_of (T : Tx K mg) : Con P w K mg base CX0 1 ("bytes_of", none) ["value"] (spF K 1 f_bytes_of) := by
  obtain ⟨fd, F⟩ := T.c.def_ 0 (d := D_bytes_of) rfl
  exact conC (cut := true) (fb := fb_bytes_of) F sc_bytes_of (F.bindsN fun _ _ _ _ _ _ us hl => match us, hl with | [_], _ => rfl) rfl rfl (fun cdv A outer s H E hr => d_bytes_of T  hr)
theorem con_key_of (T : Tx K mg) : Con P w K mg base CX0 2 ("key_of", none) ["values"] (spF K 1 f_key_of) := by
  obtain ⟨fd, F⟩ := T.c.def_ 1 (d := D_key_of) rfl
  exact conC (cut := true) (fb := fb_key_of) F sc_key_of (F.bindsN fun _ _ _ _ _ _ us hl => match us, hl with | [_], _ => rfl) rfl rfl (fun cdv A outer s H E hr => d_key_of T (con_bytes_of T) hr)
theorem con_character_of (T : Tx K mg) : Con P w K mg base CX0 1 ("character_of", none) ["code"] (spF K 1 f_character_of) := by
  obtain ⟨fd, F⟩ := T.c.def_ 2 (d := D_character_of) rfl
  exact conC (cut := true) (fb := fb_character_of) F sc_character_of (F.bindsN fun _ _ _ _ _ _ us hl => match us, hl with | [_], _ => rfl) rfl rfl (fun cdv A outer s H E hr => d_character_of T  hr)
theorem con_integer_at (T : Tx K mg) : Con P w K mg base CX0 1 ("integer_at", none) ["key", "at"] (spF K 2 f_integer_at) := by
  obtain ⟨fd, F⟩ := T.c.def_ 3 (d := D_integer_at) rfl
  exact conC (cut := true) (fb := fb_integer_at) F sc_integer_at (F.bindsN fun _ _ _ _ _ _ us hl => match us, hl with | [_, _], _ => rfl) rfl rfl (fun cdv A outer s H E hr => d_integer_at T  hr)
theorem con_text_at (T : Tx K mg) : Con P w K mg base CX0 2 ("text_at", none) ["key", "at"] (spF K 2 f_text_at) := by
  obtain ⟨fd, F⟩ := T.c.def_ 4 (d := D_text_at) rfl
  exact conC (cut := true) (fb := fb_text_at) F sc_text_at (F.bindsN fun _ _ _ _ _ _ us hl => match us, hl with | [_, _], _ => rfl) rfl rfl (fun cdv A outer s H E hr => d_text_at T (con_character_of T) hr)
theorem con_values_of (T : Tx K mg) : Con P w K mg base CX0 3 ("values_of", none) ["key"] (spF K 1 f_values_of) := by
  obtain ⟨fd, F⟩ := T.c.def_ 5 (d := D_values_of) rfl
  exact conC (cut := true) (fb := fb_values_of) F sc_values_of (F.bindsN fun _ _ _ _ _ _ us hl => match us, hl with | [_], _ => rfl) rfl rfl (fun cdv A outer s H E hr => d_values_of T (con_integer_at T) (con_text_at T) (con_bytes_of T) hr)
theorem con_prefix_range (T : Tx K mg) : Con P w K mg base CX0 1 ("prefix_range", none) ["key"] (spF K 1 f_prefix_range) := by
  obtain ⟨fd, F⟩ := T.c.def_ 6 (d := D_prefix_range) rfl
  exact conC (cut := true) (fb := fb_prefix_range) F sc_prefix_range (F.bindsN fun _ _ _ _ _ _ us hl => match us, hl with | [_], _ => rfl) rfl rfl (fun cdv A outer s H E hr => d_prefix_range T  hr)
theorem con_is_in (T : Tx K mg) : Con P w K mg base CX0 1 ("is_in", none) ["key", "span"] (spF K 2 f_is_in) := by
  obtain ⟨fd, F⟩ := T.c.def_ 7 (d := D_is_in) rfl
  exact conC (cut := true) (fb := fb_is_in) F sc_is_in (F.bindsN fun _ _ _ _ _ _ us hl => match us, hl with | [_, _], _ => rfl) rfl rfl (fun cdv A outer s H E hr => d_is_in T  hr)
theorem con_meet (T : Tx K mg) : Con P w K mg base CX0 1 ("meet", none) ["first", "second"] (spF K 2 f_meet) := by
  obtain ⟨fd, F⟩ := T.c.def_ 8 (d := D_meet) rfl
  exact conC (cut := true) (fb := fb_meet) F sc_meet (F.bindsN fun _ _ _ _ _ _ us hl => match us, hl with | [_, _], _ => rfl) rfl rfl (fun cdv A outer s H E hr => d_meet T  hr)
theorem con_row_order (T : Tx K mg) : Con P w K mg base CX0 1 ("row_order", none) ["values"] (spF K 1 f_row_order) := by
  obtain ⟨fd, F⟩ := T.c.def_ 9 (d := D_row_order) rfl
  exact conC (cut := true) (fb := fb_row_order) F sc_row_order (F.bindsN fun _ _ _ _ _ _ us hl => match us, hl with | [_], _ => rfl) rfl rfl (fun cdv A outer s H E hr => d_row_order T  hr)
theorem con_next (T : Tx K mg) : Con P w K mg base CX0 1 ("_law_next", none) ["_law_state", "_law_limit"] (spF K 2 f_next) := by
  obtain ⟨fd, F⟩ := T.c.def_ 10 (d := D_next) rfl
  exact conC (cut := true) (fb := fb_next) F sc_next (F.bindsN fun _ _ _ _ _ _ us hl => match us, hl with | [_, _], _ => rfl) rfl rfl (fun cdv A outer s H E hr => d_next T  hr)
theorem con_same (T : Tx K mg) : ∀ n : Nat, Con P w K mg base CX0 n ("_law_same", none) ["_law_actual", "_law_expected"] (spF K 2 (f_same n))
  | 0 => by
    obtain ⟨fd, F⟩ := T.c.def_ 11 (d := D_same) rfl
    exact con0 F (F.bindsN fun _ _ _ _ _ _ us hl => match us, hl with | [_, _], _ => rfl) (fun _ _ => rfl) rfl
  | n + 1 => by
    obtain ⟨fd, F⟩ := T.c.def_ 11 (d := D_same) rfl
    have G := con_same T n
    exact conC (cut := true) (fb := fb_same (fun _ => f_same n) n) F sc_same (F.bindsN fun _ _ _ _ _ _ us hl => match us, hl with | [_, _], _ => rfl) rfl rfl (fun cdv A outer s H E hr => d_same n T G hr)
theorem con_characters (T : Tx K mg) : Con P w K mg base CX0 1 ("_law_characters", none) [] (spF K 0 f_characters) := by
  obtain ⟨fd, F⟩ := T.c.def_ 13 (d := D_characters) rfl
  exact conC (cut := true) (fb := fb_characters) F sc_characters (F.bindsN fun _ _ _ _ _ _ us hl => match us, hl with | [], _ => rfl) rfl rfl (fun cdv A outer s H E hr => d_characters T  hr)
theorem con_value (T : Tx K mg) : Con P w K mg base CX0 2 ("_law_value", none) ["_law_state"] (spF K 1 f_value) := by
  obtain ⟨fd, F⟩ := T.c.def_ 12 (d := D_value) rfl
  exact conC (cut := true) (fb := fb_value) F sc_value (F.bindsN fun _ _ _ _ _ _ us hl => match us, hl with | [_], _ => rfl) rfl rfl (fun cdv A outer s H E hr => d_value T (con_next T) (con_characters T) hr)
theorem con_bytes (T : Tx K mg) : Con P w K mg base CX0 2 ("_law_bytes", none) ["_law_values"] (spF K 1 f_bytes) := by
  obtain ⟨fd, F⟩ := T.c.def_ 14 (d := D_bytes) rfl
  exact conC (cut := true) (fb := fb_bytes) F sc_bytes (F.bindsN fun _ _ _ _ _ _ us hl => match us, hl with | [_], _ => rfl) rfl rfl (fun cdv A outer s H E hr => d_bytes T (con_characters T) hr)
theorem con_read (T : Tx K mg) : Con P w K mg base CX0 2 ("_law_read", none) ["_law_key"] (spF K 1 f_read) := by
  obtain ⟨fd, F⟩ := T.c.def_ 15 (d := D_read) rfl
  exact conC (cut := true) (fb := fb_read) F sc_read (F.bindsN fun _ _ _ _ _ _ us hl => match us, hl with | [_], _ => rfl) rfl rfl (fun cdv A outer s H E hr => d_read T (con_characters T) hr)
theorem con_order (T : Tx K mg) : Con P w K mg base CX0 1 ("_law_order", none) ["_law_first", "_law_second"] (spF K 2 f_order) := by
  obtain ⟨fd, F⟩ := T.c.def_ 16 (d := D_order) rfl
  exact conC (cut := true) (fb := fb_order) F sc_order (F.bindsN fun _ _ _ _ _ _ us hl => match us, hl with | [_, _], _ => rfl) rfl rfl (fun cdv A outer s H E hr => d_order T  hr)
theorem con_agrees (T : Tx K mg) : Con P w K mg base CX0 1 ("_law_agrees", none) ["_law_left", "_law_right", "_law_order_here"] (spF K 3 f_agrees) := by
  obtain ⟨fd, F⟩ := T.c.def_ 17 (d := D_agrees) rfl
  exact conC (cut := true) (fb := fb_agrees) F sc_agrees (F.bindsN fun _ _ _ _ _ _ us hl => match us, hl with | [_, _, _], _ => rfl) rfl rfl (fun cdv A outer s H E hr => d_agrees T  hr)
theorem con_ranges (T : Tx K mg) : Con P w K mg base CX0 5 ("_law_ranges", none) ["_law_keys", "_law_strange"] (spF K 2 f_ranges) := by
  obtain ⟨fd, F⟩ := T.c.def_ 18 (d := D_ranges) rfl
  exact conC (cut := true) (fb := fb_ranges) F sc_ranges (F.bindsN fun _ _ _ _ _ _ us hl => match us, hl with | [_, _], _ => rfl) rfl rfl (fun cdv A outer s H E hr => d_ranges T (con_same T 4) (con_meet T) (con_is_in T) hr)
theorem con_law (T : Tx K mg) : Con P w K mg base CX0 6 ("law", none) ["_law_script"] (spF K 1 f_law) := by
  obtain ⟨fd, F⟩ := T.c.def_ 19 (d := D_law) rfl
  exact conC (cut := true) (fb := fb_law) F sc_law (F.bindsN fun _ _ _ _ _ _ us hl => match us, hl with | [_], _ => rfl) rfl rfl (fun cdv A outer s H E hr => d_law T (con_next T) (con_value T) (con_bytes T) (con_same T 4) (con_key_of T) (con_values_of T) (con_prefix_range T) (con_order T) (con_agrees T) (con_row_order T) (con_is_in T) (con_read T) (con_ranges T) hr)
theorem okL (T : Tx K mg) {fd : FuncData} (F : FunD K D_law.name D_law.qual D_law.params D_law.body D_law.scope (D_law.dvs K) (D_law.kws K) (He.fAd K D_law.at_) fd) : FnOk P w K mg base CX0 6 (He.fAd K ("law", none)) fd ["_law_script"] (spLawP K) :=
  F.ok sc_law (fun vs H Q E h => by obtain ⟨a, ns, rfl, _⟩ := h; rfl) (fun cdv A outer s H vs Q E hr h => ⟨_, PSs.nox (d_law T (con_next T) (con_value T) (con_bytes T) (con_same T 4) (con_key_of T) (con_values_of T) (con_prefix_range T) (con_order T) (con_agrees T) (con_row_order T) (con_is_in T) (con_read T) (con_ranges T) hr), body_ofC (cut := true) (law_spF law_true h)⟩)
end
abbrev RR : PySem.W.OpenRow := PySem.W.OpenLaw.row PySem.Challenge.rw_sameanswer_k01_keys_and_ranges
abbrev hk : PySem.W.Hook := He.hookD 5 faL fnL
def ob (s : PySem.W.SharedT) : He.AlD := He.obsDG 5 faL fnL (HandSHeadRun.getT s)
theorem ob_eq (s : PySem.W.SharedT) : ob s = hk.obs s.abs := He.obsDG_eq (HandSHeadRun.getT_eq s)
theorem runX (w : World) : HandSHeadRun.RunEq RR (PySem.W.view RR.prog [30]) hk ob 3000 ["INTEGER", "TEXT", "BEHIND", "NUMBER_BYTES", "SHIFT", "BOUND", "MOST_CHARACTERS", "BEFORE_PERCENT", "AFTER_PERCENT", "bytes_of", "key_of", "character_of", "integer_at", "text_at", "values_of", "prefix_range", "is_in", "meet", "row_order", "_law_next", "_law_same", "_law_value", "_law_characters", "_law_bytes", "_law_read", "_law_order", "_law_agrees", "_law_ranges"] w := by
  intro os
  kernel_rfl
theorem factsX {P : Program} {w : World} {K : PySem.W.Frag} {h : Heap} {mg : Str → Option Value} {f : Addr} (X : K.In h) (G : h.Ns mainGlobals mg) (hfa : mg ("law" : Str) = some (.ref f)) (c : He.SaysD faL fnL K) :
    ∃ fd : FuncData, (∀ (s : Shared) (v : Value), BindsTo s fd ⟨[v], []⟩ [("_law_script", v)]) ∧ ∀ base : Heap, K.In base → base.Ns mainGlobals mg → FnOk P w K mg base CX0 6 f fd ["_law_script"] (spLawP K) := by
  have T : Tx K mg := ⟨c, ⟨h, X, G⟩⟩
  obtain ⟨fd, F⟩ := c.def_ 19 (d := D_law) rfl
  have e := hfa.symm.trans (He.glo_ok X G (c.fact 19 (f := .glo "law") rfl))
  cases e
  have b := FunD.bindsA (ps := ["_law_script"]) F fun _ _ _ _ _ _ us hl => match us, hl with | [_], _ => rfl
  exact ⟨fd, fun s v => b s [v] rfl, fun base _ _ => okL T F⟩
end
end L2.Q
open PySem PySem.W PySem.Calls PyProof.Rows
theorem PySem.Challenge.cw_sameanswer_k01_keys_and_ranges_holds : PySem.Challenge.rw_sameanswer_k01_keys_and_ranges.Holds := by
  w_on; o_law
  refine HandSHeadRun.head_any (r := OpenLaw.row PySem.Challenge.rw_sameanswer_k01_keys_and_ranges) (q := view (OpenLaw.row PySem.Challenge.rw_sameanswer_k01_keys_and_ranges).prog [30]) (H := L2.Q.hk) (ob := L2.Q.ob) (M := 3000) (loose := ["INTEGER", "TEXT", "BEHIND", "NUMBER_BYTES", "SHIFT", "BOUND", "MOST_CHARACTERS", "BEFORE_PERCENT", "AFTER_PERCENT", "bytes_of", "key_of", "character_of", "integer_at", "text_at", "values_of", "prefix_range", "is_in", "meet", "row_order", "_law_next", "_law_same", "_law_value", "_law_characters", "_law_bytes", "_law_read", "_law_order", "_law_agrees", "_law_ranges"]) (d := HandSHeadRun.topDef (OpenLaw.row PySem.Challenge.rw_sameanswer_k01_keys_and_ranges).prog 30) (kwd := []) L2.Q.ob_eq
    (by kernel_rfl) (fun s => by kernel_rfl) L2.Q.runX (by kernel_rfl) (by kernel_rfl) (by kernel_rfl) (by rfl) (by first | assumption | decide +kernel) (by decide +kernel) ⟨rfl, rfl, rfl, rfl, rfl, by decide +kernel⟩ ?hw ?hc
  case hw => w_witness2
  case hc =>
    refine L2.walk_ofE (l := PySem.Challenge.rw_sameanswer_k01_keys_and_ranges) (n := 63) (k := 6) (x := "_law_script") (CX := L2.CX0) rfl (by decide) (by kernel_rfl) ⟨rfl, by decide, by decide⟩ ?F (fun _ _ _ _ z => z)
    intro w mg fa h Y G hmg0
    obtain ⟨K, KX, c⟩ := Y
    have hmg : mg ("law" : PySem.Str) = some (.ref fa) := by
      have e : (HandSHeadRun.topDef (OpenLaw.row PySem.Challenge.rw_sameanswer_k01_keys_and_ranges).prog 30).name = ("law" : PySem.Str) := by kernel_rfl
      rw [← e]
      exact hmg0
    obtain ⟨fd, hb, hF⟩ := L2.Q.factsX (P := (PySem.Challenge.rw_sameanswer_k01_keys_and_ranges).prog) (w := w) KX G hmg c
    exact ⟨K, fd, L2.Q.spLawP K, KX, hb, fun H a ns hl _ hS => ⟨a, ns, rfl, hS, hl, fun _ => rfl⟩, hF⟩
