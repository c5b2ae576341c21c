import PyProof.Rows.All
import Wide.All
import OpenK.AllK
import Wide.FinOn
import KE.KStateDown
import Lean
import HandS.Base
import HandS.Call
import HandS.List
import HandS.Comp
import HandS.Ends
import HandS.Dict
import HandS.Iter
import HandS.Text
import HandS.More
import HandS.Exc
import HandS.ExcOwn
import HandS.ExcIs
import HandS.TryOnly
import HandS.IsInst
import HandS.Style
import HandS.TupLe
import HandS.TupAny
import HandS.Wide
import HandS.Words
import HandS.WordsList
import HandS.WordsDict
import HandS.WordsExc
import HandS.Defaults
import HandS.Evl
import HandS.Head0
import HandS.Head1
import HandS.Head2
import HandS.HeadEnd
import HandS.HeadHook1
import HandS.HeadHook2
import PySem.Challenge.RW_sameanswer_k05_disk_keeps_what_was_synce
set_option Elab.async false
set_option linter.all false
set_option maxRecDepth 100000
set_option maxHeartbeats 4000000
/-! k05: the disk keeps what was synced. Readings, derivations and the head are printed by a program of ours from the row. -/
namespace L2.Q
open PySem PySem.Spec PyProof.Rows

/-! ### named operators -/
def rAddI : R2 := rI0 fun i j => .int (i + j)
def rSubI : R2 := rI0 fun i j => .int (i - j)
def rMulI : R2 := rI CMul fun i j => .int (i * j)
def rFdvI : R2 := rI CDivW fun i j => .int (i / j)
def rModI : R2 := rI (fun _ j => 0 < j) fun i j => .int (i % j)
def rPowI : R2 := rI CPow fun i j => .int (i ^ j.toNat)
def rLtI : R2 := rI0 fun i j => .bl (decide (i < j))
def rLeI : R2 := rI0 fun i j => .bl (decide (i ≤ j))
def rGtI : R2 := rI0 fun i j => .bl (decide (j < i))
def rGeI : R2 := rI0 fun i j => .bl (decide (j ≤ i))
def rNegI : V → Hp → VK → Prop := rU fun i => .int (-i)
def rIsNo : R2 := fun x y H Q => y = .non ∧ Q (.bl (decide (x = .non))) H
def rNotNo : R2 := fun x y H Q => y = .non ∧ Q (.bl (!decide (x = .non))) H
def rAddS : R2 := fun x y H Q => ∃ i j, x = .str i ∧ y = .str j ∧ i.length + j.length ≤ sizeLine ∧ Q (.str (i ++ j)) H
section
variable {X : Cx}
theorem oAddI : OpR X (binaryOp .Add) rAddI := op_add
theorem oSubI : OpR X (binaryOp .Sub) rSubI := op_sub
theorem oMulI : OpR X (binaryOp .Mult) rMulI := op_mul
theorem oFdvI : OpR X (binaryOp .FloorDiv) rFdvI := op_fdivW
theorem oModI : OpR X (binaryOp .Mod) rModI := op_mod
theorem oPowI : OpR X (binaryOp .Pow) rPowI := op_pow
theorem oLtI : OpR X (compareOp .Lt) rLtI := op_lt
theorem oLeI : OpR X (compareOp .LtE) rLeI := op_le
theorem oGtI : OpR X (compareOp .Gt) rGtI := op_gt
theorem oGeI : OpR X (compareOp .GtE) rGeI := op_ge
theorem oNegI : UnR X (unaryOp .USub) rNegI := un_neg
theorem oIsNo : OpR X (compareOp .Is) rIsNo := op_isN
theorem oNotNo : OpR X (compareOp .IsNot) rNotNo := op_notN
theorem oAddS : OpR X (binaryOp .Add) rAddS := op_add_str
end

/-! ### built-in calls, named -/
def rLenQ (K : PySem.W.Frag) : List V → Hp → VK → Prop := fun xs H Q => ∃ p ys, xs = [.ref p] ∧ (SqL K H p ys ∨ SqT K H p ys) ∧ Q (.int ys.length) H
def rLenD : List V → Hp → VK → Prop := fun xs H Q => ∃ a kvs, xs = [V.ref a] ∧ H a = some (.dK kvs) ∧ Q (.int kvs.length) H
def rLenT : List V → Hp → VK → Prop := fun xs H Q => ∃ z, xs = [.str z] ∧ z.length ≤ sizeLine ∧ Q (.int z.length) H
def rListQ (K : PySem.W.Frag) : List V → Hp → VK → Prop := fun xs H Q => ∃ p ys, xs = [.ref p] ∧ (SqL K H p ys ∨ SqT K H p ys) ∧ ∀ l, H l = none → Q (.ref l) (upd H l (.lst ys))
def rTupQ (K : PySem.W.Frag) : List V → Hp → VK → Prop := fun xs H Q => ∃ p ys, xs = [.ref p] ∧ ((SqL K H p ys ∧ ∀ l, H l = none → Q (.ref l) (upd H l (.tup ys))) ∨ (SqT K H p ys ∧ Q (.ref p) H))
def rInt1 : List V → Hp → VK → Prop := fun xs H Q => (∃ i, xs = [.int i] ∧ Q (.int i) H) ∨ ∃ k, xs = [.bl k] ∧ Q (.int (if k then 1 else 0)) H
def rMin2 : List V → Hp → VK → Prop := fun xs H Q => ∃ i j, xs = [.int i, .int j] ∧ Q (.int (if j < i then j else i)) H
def rMax2 : List V → Hp → VK → Prop := fun xs H Q => ∃ i j, xs = [.int i, .int j] ∧ Q (.int (if j > i then j else i)) H
def rAbs1 : List V → Hp → VK → Prop := fun xs H Q => ∃ i, xs = [.int i] ∧ Q (.int (if i < 0 then -i else i)) H
def rOrd1 : List V → Hp → VK → Prop := fun xs H Q => ∃ x, xs = [.str x] ∧ x.length = 1 ∧ Q (.int (x.cps.getD 0 0 : Nat)) H
section
variable {X : Cx}
theorem cLenQ : CallR X (.builtin "len") (rLenQ X.K) := call_len_seq
theorem cLenD : CallR X (.builtin "len") rLenD := call_lenD
theorem cLenT : CallR X (.builtin "len") rLenT := call_len_str
theorem cListQ : CallR X (.type "list") (rListQ X.K) := call_list_of
theorem cTupQ : CallR X (.type "tuple") (rTupQ X.K) := call_tuple_of
theorem cInt1 : CallR X (.type "int") rInt1 := call_int1
theorem cMin2 (hc : X.calm = true) : CallR X (.builtin "min") rMin2 := call_min2 hc
theorem cMax2 (hc : X.calm = true) : CallR X (.builtin "max") rMax2 := call_max2 hc
theorem cAbs1 : CallR X (.builtin "abs") rAbs1 := call_abs
theorem cOrd1 : CallR X (.builtin "ord") rOrd1 := call_ord
end

/-! ### constants of the module -/
section
variable {X : Cx} {x : Str} {pos : Pos}
theorem pe_gi {i : Int} (hg : Gl X x) (hm : ∃ t, X.mg x = some (.int i t)) (hd : (x == ("__debug__" : Str)) = false := by decide) : PE X (.Name x pos) (tC (.int i)) := by
  obtain ⟨t, h⟩ := hm
  exact pe_glob hg h ⟨t, rfl⟩ hd
theorem pe_gs {z : Str} (hg : Gl X x) (hm : ∃ t, X.mg x = some (.str z t)) (hd : (x == ("__debug__" : Str)) = false := by decide) : PE X (.Name x pos) (tC (.str z)) := by
  obtain ⟨t, h⟩ := hm
  exact pe_glob hg h ⟨t, rfl⟩ hd
end

/-! ### contracts -/
/-- the def that stands at at_ keeps the promise sp -/
structure Con (P : Program) (w : World) (K : PySem.W.Frag) (mg : Str → Option Value) (base : Heap) (CX : CXT) (k : Nat) (at_ : Str × Option Str) (ps : List Str) (sp : Sp) : Prop where
  ex : ∃ fd, FnOk P w K mg base CX k (He.fAd K at_) fd ps sp ∧ Binds K fd ps []
  kp : PySem.W.keepIn K (.ref (He.fAd K at_)) = true
theorem Con.imp {P : Program} {w : World} {K : PySem.W.Frag} {mg : Str → Option Value} {base : Heap} {CX : CXT} {k : Nat} {at_ : Str × Option Str} {ps : List Str} {sp sp' : Sp} (G : Con P w K mg base CX k at_ ps sp)
    (h : ∀ vs H Q E, sp' vs H Q E → sp vs H Q E) : Con P w K mg base CX k at_ ps sp' := by
  obtain ⟨⟨fd, F, b⟩, kp⟩ := G
  exact ⟨⟨fd, F.imp h, b⟩, kp⟩
theorem Con.mono {P : Program} {w : World} {K : PySem.W.Frag} {mg : Str → Option Value} {base : Heap} {CX : CXT} {k j : Nat} {at_ : Str × Option Str} {ps : List Str} {sp : Sp} (G : Con P w K mg base CX j at_ ps sp) (h : j ≤ k) : Con P w K mg base CX k at_ ps sp := by
  obtain ⟨⟨fd, F, b⟩, kp⟩ := G
  exact ⟨⟨fd, F.mono h, b⟩, kp⟩

theorem passN {X : Cx} {E : St → XK} : ∀ σ, PassesAt CX0 X σ (E σ) := fun _ _ _ _ _ _ _ h => h.elim
theorem passE {X : Cx} {E : XK} (tk : Takes X (fun cls d _ H => E cls d H)) : ∀ σ, PassesAt (L2.CX X.prog X.w) X σ E := fun σ => passAt tk σ
theorem passW {X : Cx} {W : WX} (tk : Takes X W) : ∀ σ, PassesAt (L2.CX X.prog X.w) X σ (WE W σ) := fun σ => passAt tk σ
theorem passF {X : Cx} : ∀ σ : St, PassesAt (L2.CX X.prog X.w) X σ E0 := fun _ _ _ _ _ _ _ h => by
  obtain ⟨_, _, _, _, _, _, _, _, _, _, _, _, z⟩ := h
  exact z.elim

def tCallZ (sp : Sp) (E : St → XK) (t : TA) : TE := fun σ H Q => t σ H fun vs H1 => sp vs H1 Q (E σ)
def methK (C : Addr) (sp : Sp) (E : XK) (m : Str) (t : TA) (σ : St) (x : V) (H : Hp) (Q : VK) : Prop := ∃ a dx fs, x = .ref a ∧ H a = some (.ins C dx fs) ∧ fs.lookup m = none ∧ t σ H fun vs H2 => sp (x :: vs) H2 Q E
def tMethZ (C : Addr) (m : Str) (sp : Sp) (E : St → XK) (ta : TE) (t : TA) : TE := fun σ H Q => ta σ H fun x H1 => methK C sp (E σ) m t σ x H1 Q
def makeK (C : Addr) (sp : Sp) (E : XK) (vs : List V) (H1 : Hp) (Q : VK) : Prop := ∀ x dx, H1 x = none → H1 dx = none → dx ≠ x →
  sp (.ref x :: vs) (upd (upd H1 dx (.own x)) x (.ins C dx [])) (fun v H2 => v = .non ∧ Q (.ref x) H2) E
def tMakeZ (C : Addr) (sp : Sp) (E : St → XK) (t : TA) : TE := fun σ H Q => t σ H fun vs H1 => makeK C sp (E σ) vs H1 Q
section
variable {X : Cx} {CX : CXT} {k : Nat} {ps : List Str} {sp : Sp} {E : St → XK} {x m C : Str} {p pos apos : Pos} {e o : Expr} {es : List Expr} {ta : TE} {t : TA}
theorem pe_fz (G : Con X.prog X.w X.K X.mg X.base CX k (x, none) ps sp) (hr : Room k X.A) (hg : Gl X x) (hm : X.mg x = some (.ref (He.ga X.K x))) (hx : ∀ σ, PassesAt CX X σ (E σ))
    (ha : PA X (e :: es) t) (hdb : (x == ("__debug__" : Str)) = false := by decide) (he : starEach (e :: es) X.env = (false, eval e X.env) :: starEach es X.env := by rfl) (hpl : (backTo pos (starEach es X.env)).any (·.1) = false := by rfl) :
    PE X (.Call (.Name x p) (e :: es) [] pos) (tCallZ sp E t) := by
  obtain ⟨⟨fd, F, b⟩, kp⟩ := G
  exact pe_callS (E := E) F hr hg hm kp b hx ha hdb he hpl
theorem pe_fz0 (G : Con X.prog X.w X.K X.mg X.base CX k (x, none) ps sp) (hr : Room k X.A) (hg : Gl X x) (hm : X.mg x = some (.ref (He.ga X.K x))) (hx : ∀ σ, PassesAt CX X σ (E σ))
    (hdb : (x == ("__debug__" : Str)) = false := by decide) : PE X (.Call (.Name x p) [] [] pos) (tCallZ sp E tNil) := by
  obtain ⟨⟨fd, F, b⟩, kp⟩ := G
  refine ⟨fun pins s σ H Q I h => ?_⟩
  refine wpAny_Call_Name_kw (ld_glob I hg hm ?_ hdb)
  exact PySem.W.callWith_K0 I.kIn kp (run_fnS (us := []) (E := E) F hr b (hx σ) I .nil h)
theorem pe_mz {pl : Sem Bool} (G : Con X.prog X.w X.K X.mg X.base CX k (C, some m) ps sp) (hr : Room k X.A) (c : Cls X.K (He.ga X.K C)) (hm : Meth X.K (He.ga X.K C) m (He.ma X.K (He.ga X.K C) m)) (hx : ∀ σ, PassesAt CX X σ (E σ))
    (he : PE X o ta) (ha : PA X (e :: es) t)
    (hst : starEach (e :: es) X.env = (false, eval e X.env) :: starEach es X.env := by rfl) (hpl : (backTo pos (starEach es X.env)).any (·.1) = false := by rfl)
    (ht : eval (.Call (.Attribute o m apos) (e :: es) [] pos) X.env = (do
      let ov ← eval o X.env
      standAt apos.atName
      let (f, first) ← holding [ov] (getMethod ov m pl)
      callWith pos f first (backTo pos (starEach (e :: es) X.env)) (backToKw pos (keywordEach [] X.env))) := by rfl) :
    PE X (.Call (.Attribute o m apos) (e :: es) [] pos) (tMethZ (He.ga X.K C) m sp E ta t) := by
  obtain ⟨⟨fd, F, b⟩, kp⟩ := G
  refine ⟨fun pins s σ H Q I h => ?_⟩
  refine PySem.W.methodCall_KW (pl := pl) (thn (he.run pins s σ H _ I h) fun u s1 ⟨x, H1, I1, rx, a, dx, fs, ex, ea, l, q⟩ => ?_) ht
  subst ex
  obtain rfl : u = Value.ref a := rx
  refine getmeth_ok I1 ea c hm l ?_
  refine PySem.W.callWith_K (first := [.ref a]) (h₀ := X.base) I.ok.mod.kin hm.kp (thn (ha.run pos pins s1 σ H1 _ I1 q) fun us s2 ⟨vs, H2, I2, r, q2⟩ => ⟨I2.kIn, ?_⟩) hst hpl
  exact run_fnS (us := .ref a :: us) (vs := .ref a :: vs) (E := E) F hr b (hx σ) I2 (.cons rfl r) q2
theorem pe_mz0 {pl : Sem Bool} (G : Con X.prog X.w X.K X.mg X.base CX k (C, some m) ps sp) (hr : Room k X.A) (c : Cls X.K (He.ga X.K C)) (hm : Meth X.K (He.ga X.K C) m (He.ma X.K (He.ga X.K C) m)) (hx : ∀ σ, PassesAt CX X σ (E σ))
    (he : PE X o ta)
    (ht : eval (.Call (.Attribute o m apos) [] [] pos) X.env = (do
      let ov ← eval o X.env
      standAt apos.atName
      let (f, first) ← holding [ov] (getMethod ov m pl)
      callWith pos f first (backTo pos (starEach [] X.env)) (backToKw pos (keywordEach [] X.env))) := by rfl) :
    PE X (.Call (.Attribute o m apos) [] [] pos) (tMethZ (He.ga X.K C) m sp E ta tNil) := by
  obtain ⟨⟨fd, F, b⟩, kp⟩ := G
  refine ⟨fun pins s σ H Q I h => ?_⟩
  refine PySem.W.methodCall_KW (pl := pl) (thn (he.run pins s σ H _ I h) fun u s1 ⟨x, H1, I1, rx, a, dx, fs, ex, ea, l, q⟩ => ?_) ht
  subst ex
  obtain rfl : u = Value.ref a := rx
  refine getmeth_ok I1 ea c hm l ?_
  exact PySem.W.callWith_K0 (first := [.ref a]) I1.kIn hm.kp (run_fnS (us := [.ref a]) (vs := [.ref a]) (E := E) F hr b (hx σ) I1 (.cons rfl .nil) q)
theorem pe_kz (G : Con X.prog X.w X.K X.mg X.base CX k (C, some "__init__") ps sp) (M : Mk X.K (He.ga X.K C) (He.ma X.K (He.ga X.K C) "__init__")) (hr : Room (k + 1) X.A) (hg : Gl X C) (hm : X.mg C = some (.ref (He.ga X.K C))) (hx : ∀ σ, PassesAt CX X σ (E σ))
    (ha : PA X (e :: es) t) (hdb : (C == ("__debug__" : Str)) = false := by decide) (he : starEach (e :: es) X.env = (false, eval e X.env) :: starEach es X.env := by rfl) (hpl : (backTo pos (starEach es X.env)).any (·.1) = false := by rfl) :
    PE X (.Call (.Name C p) (e :: es) [] pos) (tMakeZ (He.ga X.K C) sp E t) := by
  obtain ⟨⟨fd, F, b⟩, kp⟩ := G
  refine ⟨fun pins s σ H Q I h => ?_⟩
  refine wpAny_Call_Name_kw (ld_glob I hg hm ?_ hdb)
  refine PySem.W.callWith_K (h₀ := X.base) I.ok.mod.kin M.kp (thn (ha.run pos pins s σ H _ I h) fun us s1 ⟨vs, H1, I1, r, q⟩ => ⟨I1.kIn, ?_⟩) he hpl
  have hq := q (s1.heap.objs.size + 1) s1.heap.objs.size (I1.hok.fresh (Nat.le_succ _)) (I1.hok.fresh (Nat.le_refl _)) (Nat.ne_of_lt (Nat.lt_succ_self _))
  have I2 := Inv.made (C := He.ga X.K C) I1
  have r2 : Vals (V.ref (s1.heap.objs.size + 1) :: vs) (Value.ref (s1.heap.objs.size + 1) :: us) := .cons rfl r
  have hl : (Value.ref (s1.heap.objs.size + 1) :: us).length = ps.length := by
    have e := r2.length
    rw [F.len _ _ _ _ hq] at e
    exact e.symm
  have bb := b _ (Value.ref (s1.heap.objs.size + 1) :: us) I2.kIn (by rw [List.append_nil]; exact hl)
  rw [List.append_nil] at bb
  refine wpAny_call (make_map (f := He.ma X.K (He.ga X.K C) "__init__") I1.kIn M.makes M.init (beq_iff_eq.mp M.fn) (codeAny_mono (F.run _ X.stack _ _ ⟨Value.ref (s1.heap.objs.size + 1) :: us, []⟩ (Value.ref (s1.heap.objs.size + 1) :: us) _ _ (E σ) (hr.make (He.ga X.K C) us [])
    (I2.env0.make (He.ga X.K C) us []) bb r2 hq) fun r s' hq' => ?_))
  cases r with
  | error e => exact hx σ pins _ _ e s' I2 hq'
  | ok fl =>
    cases fl with
    | ret u =>
      obtain ⟨v, H', I3, rv, ev, q3⟩ := I2.after hq'
      subst ev
      exact ⟨rv, ⟨V.ref (s1.heap.objs.size + 1), H', I3, rfl, q3⟩⟩
    | next => exact False.elim hq'
    | brk => exact False.elim hq'
    | cont => exact False.elim hq'
end

/-! ### fields by a class's own record -/
structure FldOk {F : Type} (fl : F → List (Str × V)) (f : Str) (get : F → V) (put : V → F → F) : Prop where
  get : ∀ D, (fl D).lookup f = some (get D)
  put : ∀ v D, putF f v (fl D) = fl (put v D)
  few : ∀ D, (fl D).length < 1000
def fldK {F : Type} (C : Addr) (fl : F → List (Str × V)) (get : F → V) (x : V) (H : Hp) (Q : VK) : Prop := ∃ a dx D, x = .ref a ∧ H a = some (.ins C dx (fl D)) ∧ Q (get D) H
def tFldZ {F : Type} (C : Addr) (fl : F → List (Str × V)) (get : F → V) (ta : TE) : TE := fun σ H Q => ta σ H fun x H1 => fldK C fl get x H1 Q
def putKK {F : Type} (C : Addr) (fl : F → List (Str × V)) (put : V → F → F) (x y : V) (H : Hp) (Q : Hp → Prop) : Prop := ∃ a dx D, x = .ref a ∧ H a = some (.ins C dx (fl D)) ∧ Q (upd H a (.ins C dx (fl (put y D))))
def sFldZ {F : Type} (C : Addr) (fl : F → List (Str × V)) (put : V → F → F) (ta tv : TE) : TS := fun D σ H => tv σ H fun y H1 => ta σ H1 fun x H2 => putKK C fl put x y H2 (D.nx σ)
def augK {F : Type} (C : Addr) (fl : F → List (Str × V)) (get : F → V) (put : V → F → F) (tv : TE) (rd : V → V → Hp → VK → Prop) (σ : St) (x : V) (H : Hp) (Q : Hp → Prop) : Prop := ∃ a dx D, x = .ref a ∧ H a = some (.ins C dx (fl D)) ∧
  tv σ H fun y H2 => rd (get D) y H2 fun z H3 => ∃ dx' D', H3 a = some (.ins C dx' (fl D')) ∧ Q (upd H3 a (.ins C dx' (fl (put z D'))))
def sFldAugZ {F : Type} (C : Addr) (fl : F → List (Str × V)) (get : F → V) (put : V → F → F) (rd : V → V → Hp → VK → Prop) (ta tv : TE) : TS := fun D σ H => ta σ H fun x H1 => augK C fl get put tv rd σ x H1 (D.nx σ)
section
variable {X : Cx} {F : Type} {C : Addr} {fl : F → List (Str × V)} {f : Str} {get : F → V} {put : V → F → F} {o e value : Expr} {pos pos' tpos : Pos} {ta tv : TE}
theorem pe_fldz (c : Cls X.K C) (n : NoAttr X.K C f) (ok : FldOk fl f get put) (he : PE X e ta) (hb : attributeBase e f X.env (eval e X.env) = eval e X.env := by rfl) : PE X (.Attribute e f pos) (tFldZ C fl get ta) := by
  refine ⟨fun pins s σ H Q I h => ?_⟩
  refine attr_of hb (thn (he.run pins s σ H _ I h) fun u s1 ⟨x, H1, I1, rx, a, dx, D, ex, ea, q⟩ => ?_)
  subst ex
  obtain rfl : u = Value.ref a := rx
  exact getattr_ok I1 ea c n (ok.get D) fun u' s2 I2 ru => ⟨_, H1, I2, ru, q⟩
theorem ps_fldz (c : Cls X.K C) (n : NoAttr X.K C f) (ok : FldOk fl f get put) (ha : PE X o ta) (hv : PE X value tv) (hs : swapsWith value (some (.Attribute o f pos')) pos.line X.env = pure false := by rfl) : PS X (.Assign [.Attribute o f pos'] value pos) (sFldZ C fl put ta tv) := by
  refine ⟨fun pins s σ H D I h => ?_⟩
  refine plainObj_wpAny_Assign_Attribute (thn (hv.run pins s σ H _ I h) fun u s1 ⟨y, H1, I1, ry, q⟩ => thn (ha.run pins s1 σ H1 _ I1 q) fun ov s2 ⟨x, H2, I2, rx, a, dx, D', ex, ea, q2⟩ => ?_) hs
  subst ex
  obtain rfl : ov = Value.ref a := rx
  refine setattr_ok I2 ea c n (ok.few D') ry fun s3 I3 => ⟨σ, _, I3, ?_⟩
  rw [ok.put]
  exact q2
theorem ps_fldaugz {op : Operator} {rd : V → V → Hp → VK → Prop} (c : Cls X.K C) (n : NoAttr X.K C f) (ok : FldOk fl f get put) (ha : PE X o ta) (hv : PE X value tv) (hop : InOp X op rd) : PS X (.AugAssign (.Attribute o f tpos) op value pos) (sFldAugZ C fl get put rd ta tv) := by
  refine ⟨fun pins s σ H D I h => ?_⟩
  refine wpAny_AugAssign_AttributeAny (thn (ha.run pins s σ H _ I h) fun ov s1 ⟨x, H1, I1, rx, a, dx, D', ex, ea, q⟩ => ?_)
  subst ex
  obtain rfl : ov = Value.ref a := rx
  refine getattr_ok I1 ea c n (ok.get D') fun u s2 I2 ru => thn (hv.run pins s2 σ H1 _ I2 q) fun w3 s3 ⟨y, H2, I3, ry, q3⟩ => thn (hop pins s3 σ H2 _ y u w3 _ I3 ru ry q3) fun w4 s4 ⟨z, H3, I4, rz, dx', D2, ea', q4⟩ => ?_
  refine setattr_ok I4 ea' c n (ok.few D2) rz fun s5 I5 => ⟨σ, _, I5, ?_⟩
  rw [ok.put]
  exact q4
end

/-- in __init__: the attributes come one by one -/
def fldIK (C : Addr) (f : Str) (x : V) (H : Hp) (Q : VK) : Prop := ∃ a dx fs v, x = .ref a ∧ H a = some (.ins C dx fs) ∧ fs.lookup f = some v ∧ Q v H
def tFldI (C : Addr) (f : Str) (ta : TE) : TE := fun σ H Q => ta σ H fun x H1 => fldIK C f x H1 Q
theorem pe_fldI {X : Cx} {C : Addr} {f : Str} {e : Expr} {pos : Pos} {ta : TE} (c : Cls X.K C) (n : NoAttr X.K C f) (he : PE X e ta) (hb : attributeBase e f X.env (eval e X.env) = eval e X.env := by rfl) : PE X (.Attribute e f pos) (tFldI C f ta) := by
  refine ⟨fun pins s σ H Q I h => ?_⟩
  refine attr_of hb (thn (he.run pins s σ H _ I h) fun u s1 ⟨x, H1, I1, rx, a, dx, fs, v, ex, ea, l, q⟩ => ?_)
  subst ex
  obtain rfl : u = Value.ref a := rx
  exact getattr_ok I1 ea c n l fun u' s2 I2 ru => ⟨_, H1, I2, ru, q⟩
def initK (C : Addr) (f : Str) (x y : V) (H : Hp) (Q : Hp → Prop) : Prop := ∃ a dx fs, x = .ref a ∧ H a = some (.ins C dx fs) ∧ fs.length < 1000 ∧ Q (upd H a (.ins C dx (putF f y fs)))
def sFldI (C : Addr) (f : Str) (ta tv : TE) : TS := fun D σ H => tv σ H fun y H1 => ta σ H1 fun x H2 => initK C f x y H2 (D.nx σ)
section
variable {X : Cx} {C : Addr} {f : Str} {o value : Expr} {pos pos' : Pos} {ta tv : TE}
theorem ps_fldi (c : Cls X.K C) (n : NoAttr X.K C f) (ha : PE X o ta) (hv : PE X value tv) (hs : swapsWith value (some (.Attribute o f pos')) pos.line X.env = pure false := by rfl) : PS X (.Assign [.Attribute o f pos'] value pos) (sFldI C f ta tv) := by
  refine ⟨fun pins s σ H D I h => ?_⟩
  refine plainObj_wpAny_Assign_Attribute (thn (hv.run pins s σ H _ I h) fun u s1 ⟨y, H1, I1, ry, q⟩ => thn (ha.run pins s1 σ H1 _ I1 q) fun ov s2 ⟨x, H2, I2, rx, a, dx, fs, ex, ea, l, q2⟩ => ?_) hs
  subst ex
  obtain rfl : ov = Value.ref a := rx
  exact setattr_ok I2 ea c n l ry fun s3 I3 => ⟨σ, _, I3, q2⟩
end
theorem few_a {α : Type} {fs : List α} (h : fs.length + 0 < 1000) : fs.length < 1000 := h
theorem few_s {f : Str} {v : V} {fs : List (Str × V)} {k : Nat} (h : fs.length + (k + 1) < 1000) : (putF f v fs).length + k < 1000 := by
  have := length_putF f v fs
  omega
theorem few_z {α : Type} {k : Nat} (h : k < 1000) : ([] : List α).length + k < 1000 := by rw [List.length_nil, Nat.zero_add]; exact h

/-! ### dict.update(dict); a list's item, op= -/
def rDUpd : V → List V → Hp → VK → Prop := fun x vs H Q => ∃ (a b : Addr) (kvs more : List (Key × V)), x = .ref a ∧ vs = [.ref b] ∧ H a = some (.dK kvs) ∧ H b = some (.dK more) ∧ a ≠ b ∧ kvs.length + more.length ≤ sizeLine ∧ Q .non (upd H a (.dK (mergeK kvs more)))
theorem mt_dupd {X : Cx} : MtR X "dict.update" rDUpd := by
  intro pins s σ H x vs v us Q I rx rv h
  obtain ⟨a, b, kvs, more, ex, ev, ea, eb, hab, hz, q⟩ := h
  subst ex
  subst ev
  obtain rfl : v = Value.ref a := rx
  obtain ⟨u, rfl, ru⟩ := rv.one
  obtain rfl : u = Value.ref b := ru
  obtain ⟨z, hd, vs1, rel, dd⟩ := dk_of I.hok ea
  obtain ⟨z2, hd2, vs2, rel2, dd2⟩ := dk_of I.hok eb
  refine call_meetsIn PySem.F.slot_dict_update dd.typeIs PySem.F.entry_dict_update (PySem.F.args_dict_update_2 _ _) (meets_dict_update (mixKind X.prog X.w) a b hab hd2) ⟨vs1, vs2, dd, dd2, by rw [← rel.length, ← rel2.length]; exact hz, fun h' dd' _ hs => ?_⟩
  have he : ∃ q, h'.get? a = some q := let ⟨q, _, _, hq, _⟩ := dd'; ⟨q, hq⟩
  exact ⟨.non, _, d_write (t' := s.toks) I (by rw [ea]; exact True.intro) hs he (dk_new (Nat.le_trans (length_mergeK _ _) hz) hd (rel2.merge rel) dd'), rfl, q⟩
theorem get_list {X : Cx} : PGet X (rIxL X.K) := by
  intro pins s σ H x y v u Q I rx ry h
  obtain ⟨p, xs, i, z, rfl, rfl, hq, he, q⟩ := h
  cases rx
  obtain ⟨t, rfl⟩ := ry
  obtain ⟨its, r, pl, hz⟩ := I.list hq
  obtain ⟨j, h1, h2, h3, h4, h5⟩ := atI_get he
  obtain ⟨w, ew, rw'⟩ := r.get h2
  have hl := r.length
  have hn := line63
  have fin : EP X pins σ Q w s := ⟨z, H, I, rw', q⟩
  by_cases h0 : 0 ≤ i
  · have hj : i.toNat = j := by
      rw [seqIndex_of h0 h5] at h1
      exact Option.some.inj h1
    exact wpAny_getItem_list pl.isList h0 (by omega) (by rw [hj]; simpa using ew) fin
  · have hj : (i + (its.toArray.size : Int)).toNat = j := by
      rw [seqIndex_neg (by omega) h4] at h1
      rw [List.size_toArray, ← hl]
      exact Option.some.inj h1
    exact wpAny_getItem_list_neg pl.isList (by omega) (by rw [List.size_toArray] <;> omega) (by omega) (by rw [hj]; simpa using ew) fin

/-! ### try, named; isinstance of the held exception -/
def tTry (K : PySem.W.Frag) (c : Value) (tb : WX → TS) (ts : Addr → Value → Option Addr → TS) (Wout : WX) : TS := fun D σ H => tb (wOnly K c ts Wout D) D σ H
def tTryAs (K : PySem.W.Frag) (c : Value) (i : Nat) (tb : WX → TS) (ts : Addr → Value → Option Addr → TS) (Wout : WX) : TS := fun D σ H => tb (wAs K c i ts Wout D) D σ H
def rIsZ (K : PySem.W.Frag) (a : Addr) (cls : Value) (d : Option Addr) : List V → Hp → VK → Prop := fun xs H Q => ∃ D, cls = .ref D ∧ d = none ∧ ExcC K D ∧ rIsE K D a xs H Q
theorem call_isZ {X : Cx} {a : Addr} {oe : Obj} {cls : Value} {d : Option Addr} {pn : List (Addr × Obj)} (hz : Zc cls d oe) (hf : ∃ vs, oe.data = .fields vs) : CallR (X.suite a ((a, oe) :: pn)) (.builtin "isinstance") (rIsZ X.K a cls d) := by
  intro pins s σ H xs us Q I r h
  obtain ⟨D, e1, e2, C, h⟩ := h
  subst e1 e2
  exact call_isE C hz hf pins s σ H xs us Q I r h
/-- raise C('..') -/
def tRaiseZ (W : WX) (cls : Value) : TS := fun _ σ H => W cls none σ H

def blK (x : V) (H : Hp) (Q : Bool → Hp → Prop) : Prop := ∃ k, x = .bl k ∧ Q k H
def andK (b : Bool) (u : TT) (σ : St) (H : Hp) (Q : Bool → Hp → Prop) : Prop := if b = true then u σ H Q else Q false H
def orK (b : Bool) (u : TT) (σ : St) (H : Hp) (Q : Bool → Hp → Prop) : Prop := if b = true then Q true H else u σ H Q
def ifK (b : Bool) (A B : Prop) : Prop := if b = true then A else B
theorem if_dec {p : Prop} [Decidable p] {A B : Prop} (h1 : p → A) (h2 : ¬p → B) : ifK (decide p) A B := by
  unfold ifK
  by_cases h : p
  · rw [decide_eq_true h, if_pos rfl]; exact h1 h
  · rw [decide_eq_false h, if_neg Bool.false_ne_true]; exact h2 h
theorem if_not {p : Prop} [Decidable p] {A B : Prop} (h1 : ¬p → A) (h2 : p → B) : ifK (!decide p) A B := by
  unfold ifK
  by_cases h : p
  · rw [decide_eq_true h]; exact iteF (h2 h)
  · rw [decide_eq_false h]; exact iteT (h1 h)
theorem if_bool {b : Bool} {A B : Prop} (h1 : b = true → A) (h2 : b = false → B) : ifK b A B := by
  unfold ifK
  cases b with
  | true => exact iteT (h1 rfl)
  | false => exact iteF (h2 rfl)
theorem if_ft {b : Bool} {A B : Prop} (h : B) (h1 : b = true → B → A) : ifK b A B := if_bool (fun e => h1 e h) (fun _ => h)
theorem if_Fr {A B : Prop} (h : ifK false A B) : B := by
  unfold ifK at h
  rwa [if_neg Bool.false_ne_true] at h
theorem if_T {A B : Prop} (h : A) : ifK true A B := iteT h
theorem if_F {A B : Prop} (h : B) : ifK false A B := iteF h
theorem if_nT {A B : Prop} (h : B) : ifK (!true) A B := iteF h
theorem if_nF {A B : Prop} (h : A) : ifK (!false) A B := iteT h
theorem if_to {b c : Bool} {A B : Prop} (e : b = c) (h : ifK c A B) : ifK b A B := e ▸ h

section
variable {σ : St} {H : Hp} {D : Ends} {t u : TS} {te ta tb tc tv : TE} {c c' : TT} {Q : VK} {g : TG} {gs : TGs} {v x y z : V} {i j : Nat} {tr : TA} {K : PySem.W.Frag}
/-! ### statements -/
theorem g_seq (h : t { D with nx := u D } σ H) : tSeq t u D σ H := h
/-- a cut: what holds between two statements -/
theorem g_seqH (I : St → Hp → Prop) (h2 : ∀ σ H, I σ H → u D σ H) (h1 : ∀ N : St → Hp → Prop, (∀ σ H, I σ H → N σ H) → t { D with nx := N } σ H) : tSeq t u D σ H := h1 (u D) h2
theorem g_next (h : D.nx σ H) : tNext D σ H := h
theorem g_brk (h : D.bk σ H) : tBreak D σ H := h
theorem g_cont (h : D.ct σ H) : tCont D σ H := h
theorem g_asg (h : te σ H fun x H1 => g x σ H1 D.nx) : tAsg te g D σ H := h
theorem g_drop (h : te σ H fun _ H1 => D.nx σ H1) : tDrop te D σ H := h
theorem g_ret (h : te σ H D.rt) : tRet te D σ H := h
theorem g_retN (h : D.rt .non H) : tRetN D σ H := h
theorem g_ifs (h : c σ H fun b H1 => ifK b (t D σ H1) (u D σ H1)) : tIfS c t u D σ H := h
theorem g_raise {W : WX} {cls : Value} (h : W cls none σ H) : tRaiseZ W cls D σ H := h
theorem g_try {cc : Value} {tb : WX → TS} {ts : Addr → Value → Option Addr → TS} {Wout : WX} (h : tb (wOnly K cc ts Wout D) D σ H) : tTry K cc tb ts Wout D σ H := h
theorem g_tryAs {cc : Value} {tb : WX → TS} {ts : Addr → Value → Option Addr → TS} {Wout : WX} (h : tb (wAs K cc i ts Wout D) D σ H) : tTryAs K cc i tb ts Wout D σ H := h
theorem g_sfld {f : Str} (h : tv σ H fun y H1 => ta σ H1 fun x H2 => ∃ a C dx fs, x = .ref a ∧ H2 a = some (.ins C dx fs) ∧ Cls K C ∧ NoAttr K C f ∧ fs.length < 1000 ∧ D.nx σ (upd H2 a (.ins C dx (putF f y fs)))) : sFld K ta tv f D σ H := h
theorem g_sfldi {C : Addr} {f : Str} (h : tv σ H fun y H1 => ta σ H1 fun x H2 => initK C f x y H2 (D.nx σ)) : sFldI C f ta tv D σ H := h
theorem g_initK {C a dx : Addr} {f : Str} {fs : List (Str × V)} {R : Hp → Prop} (e : H a = some (.ins C dx fs)) (l : fs.length < 1000) (q : R (upd H a (.ins C dx (putF f y fs)))) : initK C f (.ref a) y H R := ⟨a, dx, fs, rfl, e, l, q⟩
theorem g_sfldz {F : Type} {C : Addr} {fl : F → List (Str × V)} {put : V → F → F} (h : tv σ H fun y H1 => ta σ H1 fun x H2 => putKK C fl put x y H2 (D.nx σ)) : sFldZ C fl put ta tv D σ H := h
theorem g_putKK {F : Type} {C a dx : Addr} {fl : F → List (Str × V)} {put : V → F → F} {E : F} {R : Hp → Prop} (e : H a = some (.ins C dx (fl E))) (q : R (upd H a (.ins C dx (fl (put y E))))) : putKK C fl put (.ref a) y H R := ⟨a, dx, E, rfl, e, q⟩
theorem g_augz {F : Type} {C : Addr} {fl : F → List (Str × V)} {get : F → V} {put : V → F → F} {rd : V → V → Hp → VK → Prop} (h : ta σ H fun x H1 => augK C fl get put tv rd σ x H1 (D.nx σ)) : sFldAugZ C fl get put rd ta tv D σ H := h
def augE {F : Type} (C a : Addr) (fl : F → List (Str × V)) (put : V → F → F) (z : V) (H3 : Hp) (R : Hp → Prop) : Prop := ∃ dx' E', H3 a = some (.ins C dx' (fl E')) ∧ R (upd H3 a (.ins C dx' (fl (put z E'))))
theorem g_augE {F : Type} {C a dx : Addr} {fl : F → List (Str × V)} {put : V → F → F} {E : F} {R : Hp → Prop} (e : H a = some (.ins C dx (fl E))) (q : R (upd H a (.ins C dx (fl (put z E))))) : augE C a fl put z H R := ⟨dx, E, e, q⟩
theorem g_augK {F : Type} {C a dx : Addr} {fl : F → List (Str × V)} {get : F → V} {put : V → F → F} {rd : V → V → Hp → VK → Prop} {E : F} {R : Hp → Prop} (e : H a = some (.ins C dx (fl E)))
    (q : tv σ H fun y H2 => rd (get E) y H2 fun z H3 => augE C a fl put z H3 R) : augK C fl get put tv rd σ (.ref a) H R := ⟨a, dx, E, rfl, e, q⟩
def dputE (a : Addr) (y z : V) (H4 : Hp) (R : Hp → Prop) : Prop := ∃ H5, DPut H4 a y z H5 ∧ R H5
def dputK (x y v : V) (H3 : Hp) (R : Hp → Prop) : Prop := ∃ a H4, x = .ref a ∧ DPut H3 a y v H4 ∧ R H4
def daugK (x y : V) (tv : TE) (rd : V → V → Hp → VK → Prop) (σ : St) (H2 : Hp) (R : Hp → Prop) : Prop := ∃ a v, x = .ref a ∧ DGet H2 a y (some v) ∧ tv σ H2 fun w H3 => rd v w H3 fun z H4 => dputE a y z H4 R
theorem g_dput {td ty : TE} (h : tv σ H fun v H1 => td σ H1 fun x H2 => ty σ H2 fun y H3 => dputK x y v H3 (D.nx σ)) : sDPut td ty tv D σ H := h
theorem g_dputS {a : Addr} {kvs kvs' : List (Key × V)} {k : Str} {R : Hp → Prop} (e : H a = some (.dK kvs)) (p : putK kvs (Sum.inr k) v = kvs') (l : kvs.length < 100000) (q : R (upd H a (.dK kvs'))) : dputK (.ref a) (.str k) v H R := by
  subst p
  exact ⟨a, _, rfl, .inl ⟨kvs, Sum.inr k, e, rfl, Nat.lt_trans l (by decide), rfl⟩, q⟩
theorem g_dputI {a : Addr} {kvs : List (Key × V)} {k : Int} {R : Hp → Prop} (e : H a = some (.dK kvs)) (l : kvs.length < 100000) (q : R (upd H a (.dK (putK kvs (Sum.inl k) v)))) : dputK (.ref a) (.int k) v H R :=
  ⟨a, _, rfl, .inl ⟨kvs, Sum.inl k, e, rfl, Nat.lt_trans l (by decide), rfl⟩, q⟩
theorem g_dputES {a : Addr} {kvs kvs' : List (Key × V)} {k : Str} {R : Hp → Prop} (e : H a = some (.dK kvs)) (p : putK kvs (Sum.inr k) v = kvs') (l : kvs.length < 100000) (q : R (upd H a (.dK kvs'))) : dputE a (.str k) v H R := by
  subst p
  exact ⟨_, .inl ⟨kvs, Sum.inr k, e, rfl, Nat.lt_trans l (by decide), rfl⟩, q⟩
theorem g_dputEI {a : Addr} {kvs : List (Key × V)} {k : Int} {R : Hp → Prop} (e : H a = some (.dK kvs)) (l : kvs.length < 100000) (q : R (upd H a (.dK (putK kvs (Sum.inl k) v)))) : dputE a (.int k) v H R :=
  ⟨_, .inl ⟨kvs, Sum.inl k, e, rfl, Nat.lt_trans l (by decide), rfl⟩, q⟩
theorem g_daug {td ty : TE} {rd : V → V → Hp → VK → Prop} (h : td σ H fun x H1 => ty σ H1 fun y H2 => daugK x y tv rd σ H2 (D.nx σ)) : sDAug td ty tv rd D σ H := h
theorem g_daugS {a : Addr} {kvs : List (Key × V)} {k : Str} {rd : V → V → Hp → VK → Prop} {R : Hp → Prop} (e : H a = some (.dK kvs)) (l : valV kvs (Sum.inr k) = some v) (q : tv σ H fun w H3 => rd v w H3 fun z H4 => dputE a (.str k) z H4 R) : daugK (.ref a) (.str k) tv rd σ H R :=
  ⟨a, v, rfl, .inl ⟨kvs, Sum.inr k, .inl e, rfl, l.symm⟩, q⟩
theorem g_daugI {a : Addr} {kvs : List (Key × V)} {k : Int} {rd : V → V → Hp → VK → Prop} {R : Hp → Prop} (e : H a = some (.dK kvs)) (l : valV kvs (Sum.inl k) = some v) (q : tv σ H fun w H3 => rd v w H3 fun z H4 => dputE a (.int k) z H4 R) : daugK (.ref a) (.int k) tv rd σ H R :=
  ⟨a, v, rfl, .inl ⟨kvs, Sum.inl k, .inl e, rfl, l.symm⟩, q⟩
theorem putK_h {r : List (Key × V)} {k : Key} {x : V} (h : valV r k = none) : putK ((k, x) :: r) k v = (k, v) :: r := by
  unfold putK
  rw [List.any_cons, decide_eq_true rfl, Bool.true_or, if_pos rfl, List.map_cons, if_pos rfl]
  congr 1
  have hn : (r.any fun kv => decide (kv.1 = k)) = false := by rw [valV_any, h]; rfl
  rw [List.any_eq_false] at hn
  conv => rhs; rw [← List.map_id r]
  refine List.map_congr_left fun p hp => ?_
  have := hn p hp
  rw [if_neg (by simpa using this)]
  rfl
theorem putK_c {r : List (Key × V)} {k j : Key} {x : V} (n : ¬ j = k) (h : (valV r k).isSome = true) : putK ((j, x) :: r) k v = (j, x) :: putK r k v := by
  have ha : (r.any fun kv => decide (kv.1 = k)) = true := by rw [valV_any, h]
  unfold putK
  rw [List.any_cons, decide_eq_false n, Bool.false_or, ha, if_pos rfl, if_pos rfl, List.map_cons, if_neg n]
theorem valV_h {r : List (Key × V)} {k : Key} {x : V} : valV ((k, x) :: r) k = some x := valV_pos rfl
theorem valV_c {r : List (Key × V)} {k j : Key} {x : V} (n : ¬ j = k) : valV ((j, x) :: r) k = valV r k := valV_neg (p := (j, x)) n
def dispK (p : Addr) (ps : List (V × V)) (H2 : Hp) (Q : VK) : Prop := H2 p = some (.dK []) ∧ ∃ kvs : List (Key × V), ps = kvs.map (fun kv => (kV kv.1, kv.2)) ∧ kvs.length ≤ 15 ∧ Q (.ref p) (upd H2 p (.dK (mergeK [] kvs)))
theorem g_disp {trs : List (TE × TE)} (h : ∀ p, H p = none → tPairs trs σ (upd H p (.dK [])) fun ps H2 => dispK p ps H2 Q) : tDisp trs σ H Q := h
theorem g_pnil {R : List (V × V) → Hp → Prop} (h : R [] H) : tPairs [] σ H R := h
theorem g_pcons {R : List (V × V) → Hp → Prop} {r : List (TE × TE)} (h : ta σ H fun x H1 => tb σ H1 fun y H2 => tPairs r σ H2 fun ps H3 => R ((x, y) :: ps) H3) : tPairs ((ta, tb) :: r) σ H R := h
theorem g_dispK {p : Addr} {ps : List (V × V)} (kvs : List (Key × V)) {kvs' : List (Key × V)} (e : H p = some (.dK [])) (ep : ps = kvs.map (fun kv => (kV kv.1, kv.2))) (l : kvs.length ≤ 15) (em : mergeK [] kvs = kvs') (q : Q (.ref p) (upd H p (.dK kvs'))) : dispK p ps H Q := by
  subst em
  exact ⟨e, kvs, ep, l, q⟩
theorem g_dnewK (h : ∀ p, H p = none → Q (.ref p) (upd H p (.dK []))) : tDNewK σ H Q := h
def dg2E (a : Addr) (y z : V) (H3 : Hp) (Q : VK) : Prop := ∃ o, DGet H3 a y o ∧ Q (o.getD z) H3
def dg2K (x : V) (ty tx : TE) (σ : St) (H1 : Hp) (Q : VK) : Prop := ∃ a, x = .ref a ∧ IsD H1 a ∧ ty σ H1 fun y H2 => tx σ H2 fun z H3 => dg2E a y z H3 Q
theorem g_dget2 {td ty tx : TE} (h : td σ H fun x H1 => dg2K x ty tx σ H1 Q) : tDGet2 td ty tx σ H Q := h
theorem g_dg2K {a : Addr} {kvs : List (Key × V)} {ty tx : TE} (e : H a = some (.dK kvs)) (h : ty σ H fun y H2 => tx σ H2 fun z H3 => dg2E a y z H3 Q) : dg2K (.ref a) ty tx σ H Q := ⟨a, rfl, .inl ⟨kvs, .inl e⟩, h⟩
theorem g_dg2EI {a : Addr} {kvs : List (Key × V)} {k : Int} (e : H a = some (.dK kvs)) (q : Q ((valV kvs (Sum.inl k)).getD z) H) : dg2E a (.int k) z H Q := ⟨_, .inl ⟨kvs, Sum.inl k, .inl e, rfl, rfl⟩, q⟩
theorem g_aug {ti : TIp} (e : σ[i]? = some (some x)) (h : te σ H fun y H1 => ti x y H1 fun z H2 => D.nx (σ.set i (some z)) H2) : tAug i te ti D σ H := ⟨x, e, h⟩
theorem g_augS {to ti : TE} {tget : V → V → Hp → VK → Prop} {tip : TIp} {tset : TSet} (h : to σ H fun o H1 => ti σ H1 fun i H2 => tget o i H2 fun x H3 => te σ H3 fun y H4 => tip x y H4 fun z H5 => tset o i z H5 fun H6 => D.nx σ H6) : tAugS to ti te tget tip tset D σ H := h
theorem g_ipI {f : Int → Int → Int} {a b : Int} (q : Q (.int (f a b)) H) : ipI f (.int a) (.int b) H Q := ⟨a, b, rfl, rfl, q⟩
theorem g_ipAdd {a b : Int} (q : Q (.int (a + b)) H) : ipI (fun i j => i + j) (.int a) (.int b) H Q := ⟨a, b, rfl, rfl, q⟩
theorem g_ipSub {a b : Int} (q : Q (.int (a - b)) H) : ipI (fun i j => i - j) (.int a) (.int b) H Q := ⟨a, b, rfl, rfl, q⟩
theorem lkp_hit {f : Str} {w : V} {fs : List (Str × V)} : (putF f w fs).lookup f = some w := by rw [lookup_putF, if_pos rfl]
theorem lkp_ne {f k : Str} {w u : V} {fs : List (Str × V)} (h : ¬ k = f) (e : fs.lookup k = some u) : (putF f w fs).lookup k = some u := by rw [lookup_putF, if_neg h]; exact e
/-! ### targets -/
theorem g_name {R : St → Hp → Prop} (h : R (σ.set i (some v)) H) : gName i v σ H R := h
theorem g_tup {n : Nat} {a : Addr} {xs : List V} {R : St → Hp → Prop} (e : H a = some (.tup xs)) (l : xs.length = n) (h : gs xs σ H R) : gTup K n gs (.ref a) σ H R := ⟨a, xs, rfl, Evl.st_of e, l, h⟩
theorem g_tupQ {n : Nat} {a : Addr} {xs : List V} {R : St → Hp → Prop} (e : SqT K H a xs) (l : xs.length = n) (h : gs xs σ H R) : gTup K n gs (.ref a) σ H R := ⟨a, xs, rfl, e, l, h⟩
theorem g_gcons {r : List V} {R : St → Hp → Prop} (h : g v σ H fun σ' H' => gs r σ' H' R) : gCons g gs (v :: r) σ H R := ⟨v, r, rfl, h⟩
theorem g_gnil {R : St → Hp → Prop} (h : R σ H) : gNil [] σ H R := ⟨rfl, h⟩
theorem g_gsub {to ti : TE} {s : TSet} {R : St → Hp → Prop} (h : to σ H fun o H1 => ti σ H1 fun i H2 => s o i v H2 fun H3 => R σ H3) : gSub to ti s v σ H R := h
theorem g_setL {p : Addr} {xs : List V} {k : Int} {m : Nat} {R : Hp → Prop} (e : H p = some (.lst xs)) (l : ixN xs.length k = some m) (q : R (upd H p (.lst (xs.set m v)))) : rSetL (.ref p) (.int k) v H R := ⟨p, xs, k, m, rfl, rfl, e, l, q⟩
/-! ### expressions -/
theorem g_var (e : σ[i]? = some (some v)) (q : Q v H) : tVar i σ H Q := ⟨v, e, q⟩
theorem g_c (q : Q v H) : tC v σ H Q := q
theorem g_op {r : R2} (h : ta σ H fun x H1 => tb σ H1 fun y H2 => r x y H2 Q) : tOp r ta tb σ H Q := h
theorem g_un {r : V → Hp → VK → Prop} (h : ta σ H fun x H1 => r x H1 Q) : tUn r ta σ H Q := h
theorem g_nil {R : List V → Hp → Prop} (q : R [] H) : tNil σ H R := q
theorem g_cons {R : List V → Hp → Prop} (h : ta σ H fun x H1 => tr σ H1 fun xs H2 => R (x :: xs) H2) : tCons ta tr σ H R := h
def tupK (xs : List V) (H1 : Hp) (Q : VK) : Prop := xs.length ≤ sizeLine ∧ ∀ p, H1 p = none → Q (.ref p) (upd H1 p (.tup xs))
def lstK (xs : List V) (H1 : Hp) (Q : VK) : Prop := xs.length ≤ sizeLine ∧ ∀ p, H1 p = none → Q (.ref p) (upd H1 p (.lst xs))
theorem g_tTup (h : tr σ H fun xs H1 => tupK xs H1 Q) : tTup tr σ H Q := h
theorem g_tLst (h : tr σ H fun xs H1 => lstK xs H1 Q) : tLst tr σ H Q := h
theorem g_tupK {xs : List V} (l : xs.length ≤ 100000) (h : ∀ p, H p = none → Q (.ref p) (upd H p (.tup xs))) : tupK xs H Q := ⟨Evl.sz_of l, h⟩
theorem g_lstK {xs : List V} (l : xs.length ≤ 100000) (h : ∀ p, H p = none → Q (.ref p) (upd H p (.lst xs))) : lstK xs H Q := ⟨Evl.sz_of l, h⟩
theorem g_fldz {F : Type} {C : Addr} {fl : F → List (Str × V)} {get : F → V} (h : ta σ H fun x H1 => fldK C fl get x H1 Q) : tFldZ C fl get ta σ H Q := h
theorem g_fldK {F : Type} {C a dx : Addr} {fl : F → List (Str × V)} {get : F → V} {E : F} (e : H a = some (.ins C dx (fl E))) (q : Q (get E) H) : fldK C fl get (.ref a) H Q := ⟨a, dx, E, rfl, e, q⟩
theorem g_fldI {C : Addr} {f : Str} (h : ta σ H fun x H1 => fldIK C f x H1 Q) : tFldI C f ta σ H Q := h
theorem g_fldIK {C a dx : Addr} {f : Str} {fs : List (Str × V)} {w : V} (e : H a = some (.ins C dx fs)) (l : fs.lookup f = some w) (q : Q w H) : fldIK C f (.ref a) H Q := ⟨a, dx, fs, w, rfl, e, l, q⟩
theorem g_cb {r : List V → Hp → VK → Prop} (h : tr σ H fun vs H1 => r vs H1 Q) : tCB r tr σ H Q := h
theorem g_callz {sp : Sp} {E : St → XK} (h : tr σ H fun vs H1 => sp vs H1 Q (E σ)) : tCallZ sp E tr σ H Q := h
theorem g_methz {C : Addr} {m : Str} {sp : Sp} {E : St → XK} (h : ta σ H fun x H1 => methK C sp (E σ) m tr σ x H1 Q) : tMethZ C m sp E ta tr σ H Q := h
theorem g_methK {C a dx : Addr} {m : Str} {sp : Sp} {E : XK} {fs : List (Str × V)} (e : H a = some (.ins C dx fs)) (l : fs.lookup m = none) (h : tr σ H fun vs H2 => sp (.ref a :: vs) H2 Q E) : methK C sp E m tr σ (.ref a) H Q := ⟨a, dx, fs, rfl, e, l, h⟩
theorem g_makez {C : Addr} {sp : Sp} {E : St → XK} (h : tr σ H fun vs H1 => makeK C sp (E σ) vs H1 Q) : tMakeZ C sp E tr σ H Q := h
def bmK (K : PySem.W.Frag) (T : String) (r : V → List V → Hp → VK → Prop) (tr : TA) (σ : St) (x : V) (H : Hp) (Q : VK) : Prop := tyV K T x H ∧ tr σ H fun xs H2 => r x xs H2 Q
theorem g_bm {T : String} {r : V → List V → Hp → VK → Prop} (h : ta σ H fun x H1 => bmK K T r tr σ x H1 Q) : tBM K T r ta tr σ H Q := h
theorem g_bmL {r : V → List V → Hp → VK → Prop} {p : Addr} {xs : List V} (e : H p = some (.lst xs)) (h : tr σ H fun ys H2 => r (.ref p) ys H2 Q) : bmK K "list" r tr σ (.ref p) H Q := ⟨.inl ⟨rfl, _, SqL.of e⟩, h⟩
theorem g_bmD {r : V → List V → Hp → VK → Prop} {p : Addr} {kvs : List (Key × V)} (e : H p = some (.dK kvs)) (h : tr σ H fun ys H2 => r (.ref p) ys H2 Q) : bmK K "dict" r tr σ (.ref p) H Q := ⟨.inr (.inr (.inl ⟨rfl, .inl ⟨_, e⟩⟩)), h⟩
def bm0K (K : PySem.W.Frag) (T : String) (r : V → List V → Hp → VK → Prop) (x : V) (H : Hp) (Q : VK) : Prop := tyV K T x H ∧ r x [] H Q
theorem g_bm0 {T : String} {r : V → List V → Hp → VK → Prop} (h : ta σ H fun x H1 => bm0K K T r x H1 Q) : tBM0 K T r ta σ H Q := h
theorem g_bm0L {r : V → List V → Hp → VK → Prop} {p : Addr} {xs : List V} (e : H p = some (.lst xs)) (h : r (.ref p) [] H Q) : bm0K K "list" r (.ref p) H Q := ⟨.inl ⟨rfl, _, SqL.of e⟩, h⟩
theorem g_append {l : Addr} {xs : List V} (e : H l = some (.lst xs)) (z : xs.length < sizeLine) (q : Q .non (upd H l (.lst (xs ++ [y])))) : rAppend (.ref l) [y] H Q := ⟨l, xs, y, rfl, rfl, e, z, q⟩
theorem g_dupd {a b : Addr} {kvs more : List (Key × V)} (ea : H a = some (.dK kvs)) (eb : H b = some (.dK more)) (n : a ≠ b) (z : kvs.length + more.length ≤ 1000) (q : Q .non (upd H a (.dK (mergeK kvs more)))) : rDUpd (.ref a) [.ref b] H Q :=
  ⟨a, b, kvs, more, rfl, rfl, ea, eb, n, Nat.le_trans z (by decide), q⟩
theorem g_dupdM {a b : Addr} {kvs more kvs' : List (Key × V)} (ea : H a = some (.dK kvs)) (eb : H b = some (.dK more)) (n : a ≠ b) (z : kvs.length + more.length ≤ 1000) (em : mergeK kvs more = kvs') (q : Q .non (upd H a (.dK kvs'))) : rDUpd (.ref a) [.ref b] H Q := by
  subst em
  exact g_dupd ea eb n z q
theorem v_isZ {D a A : Addr} {b : Bool} (C : ExcC K D) (k : PySem.W.kitOne K (.ref D) (.ref A) = some b) (q : Q (.bl b) H) : rIsZ K a (.ref D) none [.ref a, .ref A] H Q := ⟨D, rfl, rfl, C, .ref A, .ref A, b, rfl, fun u h => h, k, q⟩
theorem v_isZT {D a : Addr} {t : String} {b : Bool} (C : ExcC K D) (k : PySem.W.kitOne K (.ref D) (.type t) = some b) (q : Q (.bl b) H) : rIsZ K a (.ref D) none [.ref a, .ty t] H Q := ⟨D, rfl, rfl, C, .ty t, .type t, b, rfl, fun u h => h, k, q⟩
def dgetK (x y : V) (H : Hp) (Q : VK) : Prop := ∃ a v, x = .ref a ∧ DGet H a y (some v) ∧ Q v H
theorem g_dget {td ty : TE} (h : td σ H fun x H1 => ty σ H1 fun y H2 => dgetK x y H2 Q) : tDGet td ty σ H Q := h
theorem g_dgetS {a : Addr} {kvs : List (Key × V)} {k : Str} (e : H a = some (.dK kvs)) (l : valV kvs (Sum.inr k) = some v) (q : Q v H) : dgetK (.ref a) (.str k) H Q := ⟨a, v, rfl, .inl ⟨kvs, Sum.inr k, .inl e, rfl, l.symm⟩, q⟩
theorem g_dgetI {a : Addr} {kvs : List (Key × V)} {k : Int} (e : H a = some (.dK kvs)) (l : valV kvs (Sum.inl k) = some v) (q : Q v H) : dgetK (.ref a) (.int k) H Q := ⟨a, v, rfl, .inl ⟨kvs, Sum.inl k, .inl e, rfl, l.symm⟩, q⟩
theorem g_slice {r : V → Option Int → Option Int → Hp → VK → Prop} {tl th : TO} (h : te σ H fun x H1 => tl σ H1 fun l H2 => th σ H2 fun u H3 => r x l u H3 Q) : tSl r te tl th σ H Q := h
theorem g_ifx (h : c σ H fun b H1 => ifK b (ta σ H1 Q) (tb σ H1 Q)) : tIf c ta tb σ H Q := h
def andVK (x : V) (tb : TE) (σ : St) (H : Hp) (Q : VK) : Prop := ∃ b, x = .bl b ∧ ifK b (tb σ H Q) (Q (.bl false) H)
def orVK (x : V) (tb : TE) (σ : St) (H : Hp) (Q : VK) : Prop := ∃ b, x = .bl b ∧ ifK b (Q (.bl true) H) (tb σ H Q)
theorem g_andV (h : ta σ H fun x H1 => andVK x tb σ H1 Q) : tAndV ta tb σ H Q := h
theorem g_orV (h : ta σ H fun x H1 => orVK x tb σ H1 Q) : tOrV ta tb σ H Q := h
theorem g_andVK {b : Bool} (h : ifK b (tb σ H Q) (Q (.bl false) H)) : andVK (.bl b) tb σ H Q := ⟨b, rfl, h⟩
theorem g_orVK {b : Bool} (h : ifK b (Q (.bl true) H) (tb σ H Q)) : orVK (.bl b) tb σ H Q := ⟨b, rfl, h⟩
def notVK (x : V) (H : Hp) (Q : VK) : Prop := ∃ b, x = .bl b ∧ Q (.bl (!b)) H
theorem g_notV (h : ta σ H fun x H1 => notVK x H1 Q) : tNotV ta σ H Q := h
theorem g_notVK {b : Bool} (h : Q (.bl (!b)) H) : notVK (.bl b) H Q := ⟨b, rfl, h⟩
/-! ### tests -/
variable {R : Bool → Hp → Prop}
theorem g_test (h : te σ H fun x H1 => blK x H1 R) : tTest te σ H R := h
theorem g_tB (h : te σ H fun x H1 => blK x H1 R) : tB te σ H R := h
theorem g_blK {b : Bool} (q : R b H) : blK (.bl b) H R := ⟨b, rfl, q⟩
theorem g_and (h : c σ H fun b H1 => ifK b (c' σ H1 R) (R false H1)) : tAnd c c' σ H R := h
theorem g_or (h : c σ H fun b H1 => ifK b (R true H1) (c' σ H1 R)) : tOr c c' σ H R := h
theorem g_not (h : c σ H fun b H1 => R (!b) H1) : tNot c σ H R := h
def chK (z : V) (tc : TE) (r' : R2) (y : V) (σ : St) (H3 : Hp) (Q : VK) : Prop := ∃ k, z = .bl k ∧ ifK k (tc σ H3 fun w' H4 => r' y w' H4 Q) (Q (.bl false) H3)
theorem g_chain {r r' : R2} (h : ta σ H fun x H1 => tb σ H1 fun y H2 => r x y H2 fun z H3 => chK z tc r' y σ H3 Q) : tChain r r' ta tb tc σ H Q := h
theorem g_chK {r' : R2} {b : Bool} (h : ifK b (tc σ H fun w' H4 => r' y w' H4 Q) (Q (.bl false) H)) : chK (.bl b) tc r' y σ H Q := ⟨b, rfl, h⟩
/-! ### values -/
theorem v_addI {a b : Int} (q : Q (.int (a + b)) H) : rAddI (.int a) (.int b) H Q := ⟨a, b, rfl, rfl, q⟩
theorem v_subI {a b : Int} (q : Q (.int (a - b)) H) : rSubI (.int a) (.int b) H Q := ⟨a, b, rfl, rfl, q⟩
theorem v_mulR {a b : Int} (h : -(2 ^ 64) < b ∧ b < 2 ^ 64) (q : Q (.int (a * b)) H) : rMulI (.int a) (.int b) H Q := ⟨a, b, rfl, rfl, .inr h, q⟩
theorem v_mulL {a b : Int} (h : -(2 ^ 64) < a ∧ a < 2 ^ 64) (q : Q (.int (a * b)) H) : rMulI (.int a) (.int b) H Q := ⟨a, b, rfl, rfl, .inl h, q⟩
theorem v_fdvI {a b : Int} (h : 0 < b ∧ b < 2 ^ 62) (q : Q (.int (a / b)) H) : rFdvI (.int a) (.int b) H Q := ⟨a, b, rfl, rfl, wide_div (b := 62) h.1 (by omega) (by decide) (by decide), q⟩
theorem v_modI {a b : Int} (h : 0 < b) (q : Q (.int (a % b)) H) : rModI (.int a) (.int b) H Q := ⟨a, b, rfl, rfl, h, q⟩
theorem v_powI {a b : Int} (h : 0 ≤ b ∧ b ≤ 1000000 ∧ a.natAbs < 2 ^ 64) (q : Q (.int (a ^ b.toNat)) H) : rPowI (.int a) (.int b) H Q := ⟨a, b, rfl, rfl, h, q⟩
theorem v_negI {a : Int} (q : Q (.int (-a)) H) : rNegI (.int a) H Q := ⟨a, rfl, q⟩
theorem v_ltI {a b : Int} (q : Q (.bl (decide (a < b))) H) : rLtI (.int a) (.int b) H Q := ⟨a, b, rfl, rfl, q⟩
theorem v_leI {a b : Int} (q : Q (.bl (decide (a ≤ b))) H) : rLeI (.int a) (.int b) H Q := ⟨a, b, rfl, rfl, q⟩
theorem v_gtI {a b : Int} (q : Q (.bl (decide (b < a))) H) : rGtI (.int a) (.int b) H Q := ⟨a, b, rfl, rfl, q⟩
theorem v_geI {a b : Int} (q : Q (.bl (decide (b ≤ a))) H) : rGeI (.int a) (.int b) H Q := ⟨a, b, rfl, rfl, q⟩
theorem v_eqI {a b : Int} (q : Q (.bl (decide (a = b))) H) : rEq (.int a) (.int b) H Q := ⟨rfl, by simpa using q⟩
theorem v_neI {a b : Int} (q : Q (.bl (!decide (a = b))) H) : rNe (.int a) (.int b) H Q := ⟨rfl, by simpa using q⟩
theorem v_eqB {a b : Bool} (q : Q (.bl (decide (a = b))) H) : rEq (.bl a) (.bl b) H Q := ⟨rfl, by simpa using q⟩
theorem v_neB {a b : Bool} (q : Q (.bl (!decide (a = b))) H) : rNe (.bl a) (.bl b) H Q := ⟨rfl, by simpa using q⟩
theorem v_eqS {a b : Str} (q : Q (.bl (decide (a = b))) H) : rEq (.str a) (.str b) H Q := ⟨rfl, by simpa using q⟩
theorem v_neS {a b : Str} (q : Q (.bl (!decide (a = b))) H) : rNe (.str a) (.str b) H Q := ⟨rfl, by simpa using q⟩
theorem v_eqNI {b : Int} (q : Q (.bl false) H) : rEq .non (.int b) H Q := ⟨rfl, by simpa using q⟩
theorem v_eqIN {b : Int} (q : Q (.bl false) H) : rEq (.int b) .non H Q := ⟨rfl, by simpa using q⟩
theorem v_isN (q : Q (.bl true) H) : rIsNo .non .non H Q := ⟨rfl, by simpa using q⟩
theorem v_isNI {b : Int} (q : Q (.bl false) H) : rIsNo (.int b) .non H Q := ⟨rfl, by simpa using q⟩
theorem v_isNB {b : Bool} (q : Q (.bl false) H) : rIsNo (.bl b) .non H Q := ⟨rfl, by simpa using q⟩
theorem v_isNS {b : Str} (q : Q (.bl false) H) : rIsNo (.str b) .non H Q := ⟨rfl, by simpa using q⟩
theorem v_isNR {b : Addr} (q : Q (.bl false) H) : rIsNo (.ref b) .non H Q := ⟨rfl, by simpa using q⟩
theorem v_noN (q : Q (.bl false) H) : rNotNo .non .non H Q := ⟨rfl, by simpa using q⟩
theorem v_noNI {b : Int} (q : Q (.bl true) H) : rNotNo (.int b) .non H Q := ⟨rfl, by simpa using q⟩
theorem v_noNB {b : Bool} (q : Q (.bl true) H) : rNotNo (.bl b) .non H Q := ⟨rfl, by simpa using q⟩
theorem v_noNS {b : Str} (q : Q (.bl true) H) : rNotNo (.str b) .non H Q := ⟨rfl, by simpa using q⟩
theorem v_noNR {b : Addr} (q : Q (.bl true) H) : rNotNo (.ref b) .non H Q := ⟨rfl, by simpa using q⟩
theorem v_isB {a b : Bool} (q : Q (.bl (decide (a = b))) H) : rIsB (.bl a) (.bl b) H Q := ⟨a, b, rfl, rfl, q⟩
theorem v_notB {a b : Bool} (q : Q (.bl (!decide (a = b))) H) : rNotB (.bl a) (.bl b) H Q := ⟨a, b, rfl, rfl, q⟩
theorem v_rAdd {a b : Int} (q : Q (.int (a + b)) H) : rAdd (.int a) (.int b) H Q := ⟨a, b, rfl, rfl, q⟩
theorem v_rSub {a b : Int} (q : Q (.int (a - b)) H) : rSub (.int a) (.int b) H Q := ⟨a, b, rfl, rfl, q⟩
theorem v_ixL {p : Addr} {xs : List V} {n : Int} (e : H p = some (.lst xs)) (l : atI xs n = some v) (q : Q v H) : rIxL K (.ref p) (.int n) H Q := ⟨p, xs, n, v, rfl, rfl, SqL.of e, l, q⟩
theorem v_ixT {p : Addr} {xs : List V} {n : Int} (e : H p = some (.tup xs)) (l : atI xs n = some v) (q : Q v H) : rIxT K (.ref p) (.int n) H Q := ⟨p, xs, n, v, rfl, rfl, Evl.st_of e, l, q⟩
theorem v_cat {l b : Addr} {xs zs : List V} (e1 : H l = some (.lst xs)) (e2 : H b = some (.lst zs)) (z : xs.length + zs.length ≤ 100000) (q : ∀ p, H p = none → Q (.ref p) (upd H p (.lst (xs ++ zs)))) : rCat (.ref l) (.ref b) H Q := ⟨l, b, xs, zs, rfl, rfl, e1, e2, Evl.sz_of z, q⟩
theorem v_rep {l : Addr} {w : V} {n : Int} (e : H l = some (.lst [w])) (z : 0 ≤ n ∧ n ≤ 100000) (q : ∀ p, H p = none → Q (.ref p) (upd H p (.lst (List.replicate n.toNat w)))) : rRep (.ref l) (.int n) H Q :=
  ⟨l, n, [w], rfl, rfl, e, by omega, by omega, Nat.le_trans (by show 1 * n.toNat ≤ 100000; omega) (by decide), fun p hp => by
    have h : (List.replicate n.toNat [w]).flatten = List.replicate n.toNat w := by
      generalize n.toNat = m
      induction m with
      | zero => rfl
      | succ m ih => rw [List.replicate_succ, List.replicate_succ, List.flatten_cons, ih]; rfl
    rw [h]
    exact q p hp⟩
theorem v_lenL {p : Addr} {xs : List V} (e : H p = some (.lst xs)) (q : Q (.int (xs.length : Int)) H) : rLenQ K [.ref p] H Q := ⟨p, xs, rfl, .inl (SqL.of e), q⟩
theorem v_lenT {p : Addr} {xs : List V} (e : H p = some (.tup xs)) (q : Q (.int (xs.length : Int)) H) : rLenQ K [.ref p] H Q := ⟨p, xs, rfl, .inr (Evl.st_of e), q⟩
theorem v_lenD {p : Addr} {kvs : List (Key × V)} (e : H p = some (.dK kvs)) (q : Q (.int (kvs.length : Int)) H) : rLenD [.ref p] H Q := ⟨p, kvs, rfl, e, q⟩
theorem v_listL {p : Addr} {xs : List V} (e : H p = some (.lst xs)) (q : ∀ l, H l = none → Q (.ref l) (upd H l (.lst xs))) : rListQ K [.ref p] H Q := ⟨p, xs, rfl, .inl (SqL.of e), q⟩
theorem v_listT {p : Addr} {xs : List V} (e : H p = some (.tup xs)) (q : ∀ l, H l = none → Q (.ref l) (upd H l (.lst xs))) : rListQ K [.ref p] H Q := ⟨p, xs, rfl, .inr (Evl.st_of e), q⟩
theorem v_tupL {p : Addr} {xs : List V} (e : H p = some (.lst xs)) (q : ∀ l, H l = none → Q (.ref l) (upd H l (.tup xs))) : rTupQ K [.ref p] H Q := ⟨p, xs, rfl, .inl ⟨SqL.of e, q⟩⟩
theorem v_int {a : Int} (q : Q (.int a) H) : rInt1 [.int a] H Q := .inl ⟨a, rfl, q⟩
theorem v_intB {a : Bool} (q : Q (.int (if a then 1 else 0)) H) : rInt1 [.bl a] H Q := .inr ⟨a, rfl, q⟩
theorem v_minN {a b : Nat} (q : Q (.int ((min a b : Nat) : Int)) H) : rMin2 [.int (a : Int), .int (b : Int)] H Q := ⟨a, b, rfl, by
    have e : (if (b : Int) < (a : Int) then (b : Int) else (a : Int)) = ((min a b : Nat) : Int) := by
      split <;> omega
    rw [e]; exact q⟩
theorem v_min {a b : Int} (q : Q (.int (if b < a then b else a)) H) : rMin2 [.int a, .int b] H Q := ⟨a, b, rfl, q⟩
theorem v_max {a b : Int} (q : Q (.int (if b > a then b else a)) H) : rMax2 [.int a, .int b] H Q := ⟨a, b, rfl, q⟩
theorem v_abs {a : Int} (q : Q (.int (if a < 0 then -a else a)) H) : rAbs1 [.int a] H Q := ⟨a, rfl, q⟩
/-! ### isinstance of a built-in type -/
theorem v_isiI {a : Int} {T : String} {b : Bool} (k : kitB "int" T = some b) (q : Q (.bl b) H) : rIsi K [.int a, .ty T] H Q := ⟨_, _, _, _, b, rfl, .ty T, .base (.int a), kit_ty k, q⟩
theorem v_isiB {a : Bool} {T : String} {b : Bool} (k : kitB "bool" T = some b) (q : Q (.bl b) H) : rIsi K [.bl a, .ty T] H Q := ⟨_, _, _, _, b, rfl, .ty T, .base (.bl a), kit_ty k, q⟩
theorem v_isiS {a : Str} {T : String} {b : Bool} (k : kitB "str" T = some b) (q : Q (.bl b) H) : rIsi K [.str a, .ty T] H Q := ⟨_, _, _, _, b, rfl, .ty T, .base (.str a), kit_ty k, q⟩
theorem v_isiN {T : String} {b : Bool} (k : kitB "NoneType" T = some b) (q : Q (.bl b) H) : rIsi K [.non, .ty T] H Q := ⟨_, _, _, _, b, rfl, .ty T, .base .non, kit_ty k, q⟩
theorem v_isiL {a : Addr} {xs : List V} {T : String} {b : Bool} (e : H a = some (.lst xs)) (k : kitB "list" T = some b) (q : Q (.bl b) H) : rIsi K [.ref a, .ty T] H Q := ⟨_, _, _, _, b, rfl, .ty T, .base (.lst e), kit_ty k, q⟩
theorem v_isiT {a : Addr} {xs : List V} {T : String} {b : Bool} (e : H a = some (.tup xs)) (k : kitB "tuple" T = some b) (q : Q (.bl b) H) : rIsi K [.ref a, .ty T] H Q := ⟨_, _, _, _, b, rfl, .ty T, .base (.tup e), kit_ty k, q⟩
theorem i_II {a : Int} (q : Q (.bl true) H) : rIsi K [.int a, .ty "int"] H Q := v_isiI (by decide +kernel) q
theorem i_IB {a : Int} (q : Q (.bl false) H) : rIsi K [.int a, .ty "bool"] H Q := v_isiI (by decide +kernel) q
theorem i_IS {a : Int} (q : Q (.bl false) H) : rIsi K [.int a, .ty "str"] H Q := v_isiI (by decide +kernel) q
theorem i_IL {a : Int} (q : Q (.bl false) H) : rIsi K [.int a, .ty "list"] H Q := v_isiI (by decide +kernel) q
theorem i_IT {a : Int} (q : Q (.bl false) H) : rIsi K [.int a, .ty "tuple"] H Q := v_isiI (by decide +kernel) q
theorem i_BI {a : Bool} (q : Q (.bl true) H) : rIsi K [.bl a, .ty "int"] H Q := v_isiB (by decide +kernel) q
theorem i_BB {a : Bool} (q : Q (.bl true) H) : rIsi K [.bl a, .ty "bool"] H Q := v_isiB (by decide +kernel) q
theorem i_BS {a : Bool} (q : Q (.bl false) H) : rIsi K [.bl a, .ty "str"] H Q := v_isiB (by decide +kernel) q
theorem i_BL {a : Bool} (q : Q (.bl false) H) : rIsi K [.bl a, .ty "list"] H Q := v_isiB (by decide +kernel) q
theorem i_BT {a : Bool} (q : Q (.bl false) H) : rIsi K [.bl a, .ty "tuple"] H Q := v_isiB (by decide +kernel) q
theorem i_SI {a : Str} (q : Q (.bl false) H) : rIsi K [.str a, .ty "int"] H Q := v_isiS (by decide +kernel) q
theorem i_SB {a : Str} (q : Q (.bl false) H) : rIsi K [.str a, .ty "bool"] H Q := v_isiS (by decide +kernel) q
theorem i_SS {a : Str} (q : Q (.bl true) H) : rIsi K [.str a, .ty "str"] H Q := v_isiS (by decide +kernel) q
theorem i_SL {a : Str} (q : Q (.bl false) H) : rIsi K [.str a, .ty "list"] H Q := v_isiS (by decide +kernel) q
theorem i_ST {a : Str} (q : Q (.bl false) H) : rIsi K [.str a, .ty "tuple"] H Q := v_isiS (by decide +kernel) q
theorem i_NI  (q : Q (.bl false) H) : rIsi K [.non, .ty "int"] H Q := v_isiN (by decide +kernel) q
theorem i_NB  (q : Q (.bl false) H) : rIsi K [.non, .ty "bool"] H Q := v_isiN (by decide +kernel) q
theorem i_NS  (q : Q (.bl false) H) : rIsi K [.non, .ty "str"] H Q := v_isiN (by decide +kernel) q
theorem i_NL  (q : Q (.bl false) H) : rIsi K [.non, .ty "list"] H Q := v_isiN (by decide +kernel) q
theorem i_NT  (q : Q (.bl false) H) : rIsi K [.non, .ty "tuple"] H Q := v_isiN (by decide +kernel) q
theorem i_LI {a : Addr} {xs : List V} (e : H a = some (.lst xs)) (q : Q (.bl false) H) : rIsi K [.ref a, .ty "int"] H Q := v_isiL e (by decide +kernel) q
theorem i_LB {a : Addr} {xs : List V} (e : H a = some (.lst xs)) (q : Q (.bl false) H) : rIsi K [.ref a, .ty "bool"] H Q := v_isiL e (by decide +kernel) q
theorem i_LS {a : Addr} {xs : List V} (e : H a = some (.lst xs)) (q : Q (.bl false) H) : rIsi K [.ref a, .ty "str"] H Q := v_isiL e (by decide +kernel) q
theorem i_LL {a : Addr} {xs : List V} (e : H a = some (.lst xs)) (q : Q (.bl true) H) : rIsi K [.ref a, .ty "list"] H Q := v_isiL e (by decide +kernel) q
theorem i_LT {a : Addr} {xs : List V} (e : H a = some (.lst xs)) (q : Q (.bl false) H) : rIsi K [.ref a, .ty "tuple"] H Q := v_isiL e (by decide +kernel) q
theorem i_TI {a : Addr} {xs : List V} (e : H a = some (.tup xs)) (q : Q (.bl false) H) : rIsi K [.ref a, .ty "int"] H Q := v_isiT e (by decide +kernel) q
theorem i_TB {a : Addr} {xs : List V} (e : H a = some (.tup xs)) (q : Q (.bl false) H) : rIsi K [.ref a, .ty "bool"] H Q := v_isiT e (by decide +kernel) q
theorem i_TS {a : Addr} {xs : List V} (e : H a = some (.tup xs)) (q : Q (.bl false) H) : rIsi K [.ref a, .ty "str"] H Q := v_isiT e (by decide +kernel) q
theorem i_TL {a : Addr} {xs : List V} (e : H a = some (.tup xs)) (q : Q (.bl false) H) : rIsi K [.ref a, .ty "list"] H Q := v_isiT e (by decide +kernel) q
theorem i_TT {a : Addr} {xs : List V} (e : H a = some (.tup xs)) (q : Q (.bl true) H) : rIsi K [.ref a, .ty "tuple"] H Q := v_isiT e (by decide +kernel) q
end

/-! ### equality of data -/
def toD : V → PyData
  | .int i => .int i
  | .bl b => .bool b
  | .str s => .str s
  | _ => .none
def Flat : V → Prop
  | .int _ => True
  | .bl _ => True
  | .non => True
  | .str s => PyData.canLay0 (.str s) = true
  | _ => False
theorem flat_dp {K : PySem.W.Frag} {H : Hp} : ∀ {v : V}, Flat v → Dp K H v (toD v)
  | .int i, _ => .int i
  | .bl b, _ => .bl b
  | .non, _ => .non
  | .str s, _ => .str s
theorem flat_dps {K : PySem.W.Frag} {H : Hp} : ∀ {xs : List V}, (∀ x ∈ xs, Flat x) → DpAll K H xs (xs.map toD)
  | [], _ => .nil
  | _ :: _, h => .cons (flat_dp (h _ List.mem_cons_self)) (flat_dps fun y hy => h y (List.mem_cons_of_mem _ hy))
theorem flat_can : ∀ {v : V}, Flat v → (toD v).canLay0 = true ∧ (toD v).depth = 0
  | .int i, _ => ⟨by simp only [toD, PyData.canLay0], by simp only [toD, PyData.depth]⟩
  | .bl b, _ => ⟨by simp only [toD, PyData.canLay0], by simp only [toD, PyData.depth]⟩
  | .non, _ => ⟨by simp only [toD, PyData.canLay0], by simp only [toD, PyData.depth]⟩
  | .str s, h => ⟨h, by simp only [toD, PyData.depth]⟩
theorem flat_cans : ∀ {xs : List V}, (∀ x ∈ xs, Flat x) → PyData.canLayAll0 (xs.map toD) = true ∧ PyData.depthAll (xs.map toD) = 0
  | [], _ => ⟨by simp only [List.map_nil, PyData.canLayAll0], by simp only [List.map_nil, PyData.depthAll]⟩
  | x :: xs, h => by
    obtain ⟨h1, h2⟩ := flat_can (h _ List.mem_cons_self)
    obtain ⟨h3, h4⟩ := flat_cans (xs := xs) fun y hy => h y (List.mem_cons_of_mem _ hy)
    exact ⟨by simp only [List.map_cons, PyData.canLayAll0, h1, h3, Bool.and_self], by simp only [List.map_cons, PyData.depthAll, h2, h4, Nat.max_self]⟩
theorem flat_shaped {xs : List V} (h : ∀ x ∈ xs, Flat x) : SeqAt.shaped (.list (xs.map toD)) = true ∧ SeqAt.shaped (.tuple (xs.map toD)) = true := by
  obtain ⟨h3, h4⟩ := flat_cans h
  constructor <;> simp only [SeqAt.shaped, PyData.canLay0, PyData.depth, h3, h4] <;> decide
section
variable {K : PySem.W.Frag} {H : Hp} {Q : VK} {v w x y : V} {d e : PyData}
theorem v_eqD (hx : Dp K H x d) (hy : Dp K H y d) (s : SeqAt.shaped d = true) (q : Q (.bl true) H) : rEqD K x y H Q := ⟨d, d, hx, hy, s, s, by rw [SeqAt.eqv_refl d (SeqAt.canLay_of_shaped s)]; exact q⟩
theorem v_neD (hx : Dp K H x d) (hy : Dp K H y d) (s : SeqAt.shaped d = true) (q : Q (.bl false) H) : rNeD K x y H Q := ⟨d, d, hx, hy, s, s, by rw [SeqAt.eqv_refl d (SeqAt.canLay_of_shaped s)]; exact q⟩
theorem v_eqDL {a b : Addr} {xs : List V} (ea : H a = some (.lst xs)) (eb : H b = some (.lst xs)) (f : ∀ x ∈ xs, Flat x) (q : Q (.bl true) H) : rEqD K (.ref a) (.ref b) H Q := v_eqD (.lst (SqL.of ea) (flat_dps f)) (.lst (SqL.of eb) (flat_dps f)) (flat_shaped f).1 q
theorem v_neDL {a b : Addr} {xs : List V} (ea : H a = some (.lst xs)) (eb : H b = some (.lst xs)) (f : ∀ x ∈ xs, Flat x) (q : Q (.bl false) H) : rNeD K (.ref a) (.ref b) H Q := v_neD (.lst (SqL.of ea) (flat_dps f)) (.lst (SqL.of eb) (flat_dps f)) (flat_shaped f).1 q
theorem v_eqDf (f : Flat x) (q : Q (.bl true) H) : rEqD K x x H Q := v_eqD (flat_dp f) (flat_dp f) (by
  obtain ⟨h1, h2⟩ := flat_can f
  simp only [SeqAt.shaped, h1, h2]; decide) q
theorem flat_ints {d : List Int} : ∀ x ∈ d.map V.int, Flat x := fun x hx => by
  obtain ⟨i, _, rfl⟩ := List.mem_map.mp hx
  exact True.intro
theorem flat_bls {d : List Bool} : ∀ x ∈ d.map V.bl, Flat x := fun x hx => by
  obtain ⟨i, _, rfl⟩ := List.mem_map.mp hx
  exact True.intro
theorem v_ixQL {p : Addr} {xs : List V} {n : Int} (e : H p = some (.lst xs)) (l : atI xs n = some v) (q : Q v H) : rIx K (.ref p) (.int n) H Q := .inl (v_ixL e l q)
theorem v_ixQT {p : Addr} {xs : List V} {n : Int} (e : H p = some (.tup xs)) (l : atI xs n = some v) (q : Q v H) : rIx K (.ref p) (.int n) H Q := .inr (.inl (v_ixT e l q))
end
/-! ### heaps -/
theorem same_at {H H' : Hp} {b : Addr} {o : HO} (s : Same H H') (h : H b = some o) : H' b = some o := s b o h
theorem same_new {H : Hp} {p : Addr} {o : HO} (h : H p = none) : Same H (upd H p o) := fun b u e => by
  rw [upd_ne (ne_of_none e h)]
  exact e
theorem upd_none {H : Hp} {a b : Addr} {o : HO} (h : upd H a o b = none) : H b = none ∧ b ≠ a := by
  by_cases e : b = a
  · subst e; rw [upd_same] at h; cases h
  · rw [upd_ne e] at h; exact ⟨h, e⟩
theorem free_upd {H : Hp} {a b : Addr} {o : HO} (h : upd H a o b = none) : H b = none := (upd_none h).1
theorem upd_self {H : Hp} {a : Addr} {o : HO} (h : H a = some o) : upd H a o = H := funext fun b => by
  by_cases e : b = a
  · subst e; rw [upd_same, h]
  · rw [upd_ne e]
/-- all but the objects of l is as it was -/
def Fr (H H' : Hp) (l : List Addr) : Prop := ∀ b o, H b = some o → b ∉ l → H' b = some o
theorem Fr.of_same {H H' : Hp} {l : List Addr} (s : Same H H') : Fr H H' l := fun b o e _ => s b o e
theorem Fr.refl {H : Hp} {l : List Addr} : Fr H H l := fun _ _ e _ => e
theorem Fr.trans {H H1 H2 : Hp} {l : List Addr} (a : Fr H H1 l) (b : Fr H1 H2 l) : Fr H H2 l := fun x o e n => b x o (a x o e n) n
theorem Fr.mono {H H1 : Hp} {l m : List Addr} (a : Fr H H1 l) (h : ∀ x ∈ l, x ∈ m) : Fr H H1 m := fun x o e n => a x o e fun q => n (h x q)
theorem Fr.at {H H' : Hp} {l : List Addr} {b : Addr} {o : HO} (f : Fr H H' l) (h : H b = some o) (n : b ∉ l) : H' b = some o := f b o h n
theorem Fr.updm {H H' : Hp} {a : Addr} {o : HO} {l : List Addr} (h : Fr H H' l) (m : a ∈ l) : Fr H (upd H' a o) l := fun b u e n => by
  rw [upd_ne (fun q => n (by rw [q]; exact m))]; exact h b u e n
theorem Fr.updf {H H' : Hp} {a : Addr} {o : HO} {l : List Addr} (h : Fr H H' l) (m : H a = none) : Fr H (upd H' a o) l := fun b u e n => by
  rw [upd_ne (ne_of_none e m)]; exact h b u e n
theorem Same.updf {H H' : Hp} {a : Addr} {o : HO} (h : Same H H') (m : H a = none) : Same H (upd H' a o) := fun b u e => by
  rw [upd_ne (ne_of_none e m)]; exact h b u e
theorem free_at {H H' : Hp} {b : Addr} (s : Same H H') (h : H' b = none) : H b = none := s.free h
/-! ### loops -/
def forK (J : It) (g : TG) (tb : TS) (D : Ends) (σ : St) (H1 : Hp) : Prop := ∃ W : Nat → Nat → St → Hp → Prop, (∃ m, W 0 m σ H1) ∧ ∀ i m σ H, W i m σ H →
  (J.stop i H ∧ D.nx σ H) ∨ (J.go i H ∧ ∃ N : St → Hp → Prop, (∀ σ' H', N σ' H' → ∃ m', m' < m ∧ W (i + 1) m' σ' H') ∧ ∀ x H', J.yld i H x H' → g x σ H' fun σ2 H2 => tb { D with nx := N, ct := N, bk := D.nx } σ2 H2)
def itLK (K : PySem.W.Frag) (x : V) (H1 : Hp) (R : It → Hp → Prop) : Prop := ∃ a, x = .ref a ∧ (∃ xs, SqL K H1 a xs) ∧ R (Itl K a) H1
def itTK (K : PySem.W.Frag) (x : V) (H1 : Hp) (R : It → Hp → Prop) : Prop := ∃ a, x = .ref a ∧ (∃ xs, SqT K H1 a xs) ∧ R (Itt K a) H1
def itRK (vs : List V) (H1 : Hp) (R : It → Hp → Prop) : Prop := ∃ j : Int, vs = [.int j] ∧ -(2 ^ 62) ≤ j ∧ j < 2 ^ 62 ∧ R (Itr 0 j.toNat) H1
def itR2K (vs : List V) (H1 : Hp) (R : It → Hp → Prop) : Prop := ∃ i j : Int, vs = [.int i, .int j] ∧ (-(2 ^ 62) ≤ i ∧ i < 2 ^ 62 ∧ -(2 ^ 62) ≤ j ∧ j < 2 ^ 62) ∧ R (Itr i (j - i).toNat) H1
def itZK (K : PySem.W.Frag) (vs : List V) (H1 : Hp) (R : It → Hp → Prop) : Prop := ∃ a b xs ys, vs = [.ref a, .ref b] ∧ SqL K H1 a xs ∧ SqL K H1 b ys ∧ R (Itz K a b) H1
def itEK (K : PySem.W.Frag) (vs : List V) (H1 : Hp) (R : It → Hp → Prop) : Prop := ∃ a xs, vs = [.ref a] ∧ SqL K H1 a xs ∧ R (Ite K a) H1
def itSK (v : V) (H1 : Hp) (R : It → Hp → Prop) : Prop := ∃ x, v = .str x ∧ R (Its x) H1
def lcK (J : It) (g : TG) (tt : TT) (te : TE) (vs : List Nat) (σ : St) (H1 : Hp) (Q : VK) : Prop := ∀ D, H1 D = none → ∃ W : Nat → Nat → Hp → Prop, (∃ m, W 0 m (upd H1 D (.lst []))) ∧ ∀ i m H, W i m H →
  (J.stop i H ∧ Q (.ref D) H) ∨ (J.go i H ∧ ∃ Nx : Hp → Prop, (∀ H', Nx H' → ∃ m', m' < m ∧ W (i + 1) m' H') ∧ ∀ x H', J.yld i H x H' → g x (wipe σ vs) H' fun σ2 H2 => wipe σ2 vs = wipe σ vs ∧ tt σ2 H2 fun b H3 =>
    if b = true then te σ2 H3 fun y H4 => ∃ acc, H4 D = some (.lst acc) ∧ acc.length < sizeLine ∧ Nx (upd H4 D (.lst (acc ++ [y]))) else Nx H3)
section
variable {σ : St} {H : Hp} {D : Ends} {tb : TS} {te tl : TE} {Q : VK} {g : TG} {v : V} {ta : TA} {K : PySem.W.Frag} {wi : TI} {R : It → Hp → Prop} {tt : TT} {vs : List Nat}
theorem g_for (h : wi σ H fun J H1 => forK J g tb D σ H1) : tFor wi g tb D σ H := h
theorem g_lc (h : wi σ H fun J H1 => lcK J g tt te vs σ H1 Q) : tLc wi g tt te vs σ H Q := h
theorem g_iL (h : tl σ H fun x H1 => itLK K x H1 R) : iList K tl σ H R := h
theorem g_iT (h : tl σ H fun x H1 => itTK K x H1 R) : iTup K tl σ H R := h
theorem g_iR (h : ta σ H fun x H1 => itRK x H1 R) : iRng1 ta σ H R := h
theorem g_iR2 (h : ta σ H fun x H1 => itR2K x H1 R) : iRng2 ta σ H R := h
theorem g_iZ (h : ta σ H fun x H1 => itZK K x H1 R) : iZip K ta σ H R := h
theorem g_iE (h : ta σ H fun x H1 => itEK K x H1 R) : iEnum K ta σ H R := h
theorem g_iS (h : tl σ H fun x H1 => itSK x H1 R) : iStr tl σ H R := h
theorem g_iLK {a : Addr} {xs : List V} (e : H a = some (.lst xs)) (q : R (Itl K a) H) : itLK K (.ref a) H R := ⟨a, rfl, ⟨xs, SqL.of e⟩, q⟩
theorem g_iTK {a : Addr} {xs : List V} (e : H a = some (.tup xs)) (q : R (Itt K a) H) : itTK K (.ref a) H R := ⟨a, rfl, ⟨xs, Evl.st_of e⟩, q⟩
theorem g_iRK {n : Int} (b : -(2 ^ 62) ≤ n ∧ n < 2 ^ 62) (q : R (Itr 0 n.toNat) H) : itRK [.int n] H R := ⟨n, rfl, b.1, b.2, q⟩
theorem g_iR2K {m n : Int} (b : -(2 ^ 62) ≤ m ∧ m < 2 ^ 62 ∧ -(2 ^ 62) ≤ n ∧ n < 2 ^ 62) (q : R (Itr m (n - m).toNat) H) : itR2K [.int m, .int n] H R := ⟨m, n, rfl, b, q⟩
theorem g_iZK {a b : Addr} {xs ys : List V} (e1 : H a = some (.lst xs)) (e2 : H b = some (.lst ys)) (q : R (Itz K a b) H) : itZK K [.ref a, .ref b] H R := ⟨a, b, xs, ys, rfl, SqL.of e1, SqL.of e2, q⟩
theorem g_iEK {a : Addr} {xs : List V} (e1 : H a = some (.lst xs)) (q : R (Ite K a) H) : itEK K [.ref a] H R := ⟨a, xs, rfl, SqL.of e1, q⟩
theorem g_iSK {x : Str} (q : R (Its x) H) : itSK (.str x) H R := ⟨x, rfl, q⟩
theorem for_L {a : Addr} (xs : List V) (Pv : Nat → St → Hp → Prop) (h0 : Pv 0 σ H) (hl : ∀ i σ H, i ≤ xs.length → Pv i σ H → SqL K H a xs)
    (hs : ∀ i x σ H, xs[i]? = some x → Pv i σ H → g x σ H fun σ2 H2 => tb { D with nx := Pv (i + 1), ct := Pv (i + 1), bk := D.nx } σ2 H2) (hd : ∀ σ H, Pv xs.length σ H → D.nx σ H) : forK (Itl K a) g tb D σ H := for_list (K := K) Pv h0 hl hs hd
theorem for_T {a : Addr} (xs : List V) (Pv : Nat → St → Hp → Prop) (h0 : Pv 0 σ H) (hl : ∀ i σ H, i ≤ xs.length → Pv i σ H → SqT K H a xs)
    (hs : ∀ i x σ H, xs[i]? = some x → Pv i σ H → g x σ H fun σ2 H2 => tb { D with nx := Pv (i + 1), ct := Pv (i + 1), bk := D.nx } σ2 H2) (hd : ∀ σ H, Pv xs.length σ H → D.nx σ H) : forK (Itt K a) g tb D σ H := for_tup (K := K) Pv h0 hl hs hd
theorem for_R {lo : Int} {n : Nat} (Pv : Nat → St → Hp → Prop) (h0 : Pv 0 σ H) (hs : ∀ (i : Nat) σ H, i < n → Pv i σ H → g (.int (lo + i)) σ H fun σ2 H2 => tb { D with nx := Pv (i + 1), ct := Pv (i + 1), bk := D.nx } σ2 H2) (hd : ∀ σ H, Pv n σ H → D.nx σ H) : forK (Itr lo n) g tb D σ H := for_range Pv h0 hs hd
theorem for_R0 {n : Nat} (Pv : Nat → St → Hp → Prop) (h0 : Pv 0 σ H) (hs : ∀ (i : Nat) σ H, i < n → Pv i σ H → g (.int (i : Int)) σ H fun σ2 H2 => tb { D with nx := Pv (i + 1), ct := Pv (i + 1), bk := D.nx } σ2 H2) (hd : ∀ σ H, Pv n σ H → D.nx σ H) : forK (Itr 0 n) g tb D σ H :=
  for_range Pv h0 (fun i σ H hi p => by rw [Int.zero_add]; exact hs i σ H hi p) hd
theorem for_S {x : Str} (Pv : Nat → St → Hp → Prop) (h0 : Pv 0 σ H) (hs : ∀ (i : Nat) (c : Nat) σ H, x.cps[i]? = some c → Pv i σ H → g (.str ⟨#[c]⟩) σ H fun σ2 H2 => tb { D with nx := Pv (i + 1), ct := Pv (i + 1), bk := D.nx } σ2 H2) (hd : ∀ σ H, Pv x.cps.size σ H → D.nx σ H) : forK (Its x) g tb D σ H := by
  refine ⟨fun i m σ H => m = x.cps.size - i ∧ i ≤ x.cps.size ∧ Pv i σ H, ⟨x.cps.size, by simp, Nat.zero_le _, h0⟩, ?_⟩
  rintro i m σ H ⟨rfl, hi, p⟩
  by_cases hlt : i < x.cps.size
  · refine .inr ⟨hlt, Pv (i + 1), fun σ' H' p' => ⟨x.cps.size - (i + 1), by omega, rfl, hlt, p'⟩, fun v H' y => ?_⟩
    obtain ⟨e, c, hc, ev⟩ := y
    subst e ev
    exact hs i c σ H' hc p
  · have e : i = x.cps.size := by omega
    subst e
    exact .inl ⟨Nat.le_refl _, hd σ H p⟩
theorem for_Z {a b : Addr} (xs ys : List V) (Pv : Nat → St → Hp → Prop) (h0 : Pv 0 σ H) (hq : ∀ i σ H, Pv i σ H → SqL K H a xs ∧ SqL K H b ys)
    (hs : ∀ (i : Nat) (x y : V) (T : Addr) (σ : St) (H : Hp), xs[i]? = some x → ys[i]? = some y → Pv i σ H → H T = none → g (.ref T) σ (upd H T (.tup [x, y])) fun σ2 H2 => tb { D with nx := Pv (i + 1), ct := Pv (i + 1), bk := D.nx } σ2 H2)
    (hd : ∀ i σ H, (i = xs.length ∧ i ≤ ys.length ∨ i = ys.length ∧ i ≤ xs.length) → Pv i σ H → D.nx σ H) : forK (Itz K a b) g tb D σ H := by
  refine ⟨fun i m σ H => m = xs.length - i ∧ i ≤ xs.length ∧ i ≤ ys.length ∧ Pv i σ H, ⟨xs.length, rfl, Nat.zero_le _, Nat.zero_le _, h0⟩, ?_⟩
  rintro i m σ H ⟨rfl, hi, hj, p⟩
  obtain ⟨qx, qy⟩ := hq i σ H p
  by_cases hlt : i < xs.length ∧ i < ys.length
  · have hx : xs[i]? = some xs[i] := List.getElem?_eq_getElem hlt.1
    have hy : ys[i]? = some ys[i] := List.getElem?_eq_getElem hlt.2
    refine .inr ⟨⟨xs, ys, _, _, qx, qy, hx, hy⟩, Pv (i + 1), fun σ' H' p' => ⟨xs.length - (i + 1), by omega, rfl, hlt.1, hlt.2, p'⟩, fun v H' y => ?_⟩
    obtain ⟨T, x', y', rfl, hT, rfl, f1, f2⟩ := y
    exact hs i x' y' T σ H (f1 xs qx) (f2 ys qy) p hT
  · exact .inl ⟨⟨xs, ys, qx, qy, by omega⟩, hd i σ H (by omega) p⟩
theorem lc_R {n : Nat} (Pv : Addr → Nat → Hp → Prop) (h0 : ∀ D, H D = none → Pv D 0 (upd H D (.lst [])))
    (hs : ∀ D (i : Nat) H, i < n → Pv D i H → g (.int (i : Int)) (wipe σ vs) H fun σ2 H2 => wipe σ2 vs = wipe σ vs ∧ tt σ2 H2 fun b H3 =>
      if b = true then te σ2 H3 fun y H4 => ∃ acc, H4 D = some (.lst acc) ∧ acc.length < sizeLine ∧ Pv D (i + 1) (upd H4 D (.lst (acc ++ [y]))) else Pv D (i + 1) H3) (hd : ∀ D H, Pv D n H → Q (.ref D) H) : lcK (Itr 0 n) g tt te vs σ H Q :=
  fun D hD => lc_range (Pv D) (h0 D hD) (fun i H hi p => by rw [Int.zero_add]; exact hs D i H hi p) (hd D)
theorem lc_L {a : Addr} (xs : List V) (Pv : Addr → Nat → Hp → Prop) (h0 : ∀ D, H D = none → Pv D 0 (upd H D (.lst []))) (hl : ∀ D i H, i ≤ xs.length → Pv D i H → SqL K H a xs)
    (hs : ∀ D i x H, xs[i]? = some x → Pv D i H → g x (wipe σ vs) H fun σ2 H2 => wipe σ2 vs = wipe σ vs ∧ tt σ2 H2 fun b H3 =>
      if b = true then te σ2 H3 fun y H4 => ∃ acc, H4 D = some (.lst acc) ∧ acc.length < sizeLine ∧ Pv D (i + 1) (upd H4 D (.lst (acc ++ [y]))) else Pv D (i + 1) H3) (hd : ∀ D H, Pv D xs.length H → Q (.ref D) H) : lcK (Itl K a) g tt te vs σ H Q :=
  fun D hD => lc_list (xs := xs) (Pv D) (h0 D hD) (hl D) (hs D) (hd D)
theorem g_yesT {R : Bool → Hp → Prop} (h : R true H) : tYes σ H R := h
/-- a comprehension whose elements only make things: what holds of each -/
def lcEnd (H : Hp) (n : Nat) (Rel : Nat → V → Hp → Prop) (Q : VK) : Prop := ∀ D ys H', H D = none → H' D = some (.lst ys) → Same H H' → ys.length = n → (∀ i y, ys[i]? = some y → Rel i y H') → Q (.ref D) H'
def lcPv (H : Hp) (Rel : Nat → V → Hp → Prop) (D : Addr) (i : Nat) (H' : Hp) : Prop := Same H H' ∧ H D = none ∧ ∃ ys, H' D = some (.lst ys) ∧ ys.length = i ∧ ∀ j y, ys[j]? = some y → Rel j y H'
theorem lc_mapR {n j : Nat} (Rel : Nat → V → Hp → Prop) (mono : ∀ i y H1 H2 D acc H0, H D = none → H1 D = some (.lst acc) → (∀ k z, acc[k]? = some z → Rel k z H0) → Fr H1 H2 [D] → Rel i y H1 → Rel i y H2) (hz : n ≤ 100000)
    (hw : ∀ i : Nat, wipe ((wipe σ vs).set j (some (.int (i : Int)))) vs = wipe σ vs)
    (hs : ∀ (i : Nat) H', i < n → Same H H' → ∀ R : VK, (∀ y H'', Same H' H'' → Rel i y H'' → R y H'') → te ((wipe σ vs).set j (some (.int (i : Int)))) H' R)
    (hd : lcEnd H n Rel Q) : lcK (Itr 0 n) (gName j) tYes te vs σ H Q := by
  refine lc_R (lcPv H Rel) (fun D hD => ⟨fun b u e => (by rw [upd_ne (ne_of_none e hD)]; exact e), hD, [], upd_same, rfl, fun j y e => by simp at e⟩) (fun D i H' hi p => ⟨hw i, ?_⟩) fun D H' p => ?_
  · obtain ⟨s, hD, ys, h1, h2, h3⟩ := p
    refine g_yesT ?_
    rw [if_pos rfl]
    refine (hs i H' hi s _ fun y H4 s4 r => ⟨ys, s4 D _ h1, Nat.lt_of_le_of_lt (show ys.length ≤ 100000 by omega) (by decide), ?_⟩)
    have f : Fr H4 (upd H4 D (.lst (ys ++ [y]))) [D] := fun b o e n => by
      rw [upd_ne (by simpa using n)]; exact e
    refine ⟨fun b o e => ?_, hD, _, upd_same, by rw [List.length_append, h2]; rfl, fun k z e => ?_⟩
    · rw [upd_ne (ne_of_none e hD)]
      exact s4 b o (s b o e)
    · by_cases hk : k < ys.length
      · rw [List.getElem?_append_left hk] at e
        exact mono k z H4 _ D ys H' hD (s4 D _ h1) h3 f (mono k z H' H4 D ys H' hD h1 h3 (fun b o e _ => s4 b o e) (h3 k z e))
      · rw [List.getElem?_append_right (by omega)] at e
        have hk0 : k - ys.length = 0 := by
          cases q : k - ys.length with
          | zero => rfl
          | succ m => rw [q] at e; cases e
        rw [hk0] at e
        cases e
        have e2 : k = i := by omega
        subst e2
        exact mono k y H4 _ D ys H' hD (s4 D _ h1) h3 f r
  · obtain ⟨s, hD, ys, h1, h2, h3⟩ := p
    exact hd D ys H' hD h1 s h2 h3
theorem lc_mapL {a : Addr} {j : Nat} (xs : List V) (hx : SqL K H a xs) (Rel : Nat → V → Hp → Prop) (mono : ∀ i y H1 H2 D acc H0, H D = none → H1 D = some (.lst acc) → (∀ k z, acc[k]? = some z → Rel k z H0) → Fr H1 H2 [D] → Rel i y H1 → Rel i y H2) (hz : xs.length ≤ 100000)
    (hw : ∀ x : V, wipe ((wipe σ vs).set j (some x)) vs = wipe σ vs)
    (hs : ∀ (i : Nat) x H', xs[i]? = some x → Same H H' → ∀ R : VK, (∀ y H'', Same H' H'' → Rel i y H'' → R y H'') → te ((wipe σ vs).set j (some x)) H' R)
    (hd : lcEnd H xs.length Rel Q) : lcK (Itl K a) (gName j) tYes te vs σ H Q := by
  refine lc_L xs (lcPv H Rel) (fun D hD => ⟨fun b u e => (by rw [upd_ne (ne_of_none e hD)]; exact e), hD, [], upd_same, rfl, fun j y e => by simp at e⟩) (fun D i H' hi p => p.1.seq hx) (fun D i x H' hi p => ⟨hw x, ?_⟩) fun D H' p => ?_
  · obtain ⟨s, hD, ys, h1, h2, h3⟩ := p
    have hlt := (List.getElem?_eq_some_iff.mp hi).1
    refine g_yesT ?_
    rw [if_pos rfl]
    refine (hs i x H' hi s _ fun y H4 s4 r => ⟨ys, s4 D _ h1, Nat.lt_of_le_of_lt (show ys.length ≤ 100000 by omega) (by decide), ?_⟩)
    have f : Fr H4 (upd H4 D (.lst (ys ++ [y]))) [D] := fun b o e n => by
      rw [upd_ne (by simpa using n)]; exact e
    refine ⟨fun b o e => ?_, hD, _, upd_same, by rw [List.length_append, h2]; rfl, fun k z e => ?_⟩
    · rw [upd_ne (ne_of_none e hD)]
      exact s4 b o (s b o e)
    · by_cases hk : k < ys.length
      · rw [List.getElem?_append_left hk] at e
        exact mono k z H4 _ D ys H' hD (s4 D _ h1) h3 f (mono k z H' H4 D ys H' hD h1 h3 (fun b o e _ => s4 b o e) (h3 k z e))
      · rw [List.getElem?_append_right (by omega)] at e
        have hk0 : k - ys.length = 0 := by
          cases q : k - ys.length with
          | zero => rfl
          | succ m => rw [q] at e; cases e
        rw [hk0] at e
        cases e
        have e2 : k = i := by omega
        subst e2
        exact mono k y H4 _ D ys H' hD (s4 D _ h1) h3 f r
  · obtain ⟨s, hD, ys, h1, h2, h3⟩ := p
    exact hd D ys H' hD h1 s h2 h3
end

def topS (i : Nat) : Stmt := PySem.Challenge.pw_sameanswer_k05_disk_keeps_what_was_synce.main.body.getD i (.Pass ⟨0, 0, 0, 0⟩)
abbrev s_Disk_init : Stmt := inClass (topS 8) 0
abbrev s_Disk_size : Stmt := inClass (topS 8) 1
abbrev s_Disk_read : Stmt := inClass (topS 8) 2
abbrev s_Disk_pending : Stmt := inClass (topS 8) 3
abbrev s_Disk_counts : Stmt := inClass (topS 8) 4
abbrev s_Disk_lose_power : Stmt := inClass (topS 8) 5
abbrev s_Disk_operate : Stmt := inClass (topS 8) 6
abbrev s_Disk_write : Stmt := inClass (topS 8) 7
abbrev s_Disk_sync : Stmt := inClass (topS 8) 8
abbrev s_Disk_fail_after : Stmt := inClass (topS 8) 9
abbrev s_Disk_power : Stmt := inClass (topS 8) 10
abbrev s_Disk_is_on : Stmt := inClass (topS 8) 11
abbrev s_Disk_losses : Stmt := inClass (topS 8) 12
abbrev s_next : Stmt := topS 10
abbrev s_same : Stmt := topS 11
abbrev s_refused : Stmt := topS 12
abbrev s_operate : Stmt := topS 13
abbrev s_write : Stmt := topS 14
abbrev s_sync : Stmt := topS 15
abbrev s_fail : Stmt := topS 16
abbrev s_power : Stmt := topS 17
abbrev s_deed : Stmt := topS 18
abbrev s_sector : Stmt := topS 19
abbrev s_is_right : Stmt := topS 20
abbrev s_law : Stmt := topS 21
def D_Disk_init : He.DefD := ⟨("Disk", some "__init__"), "__init__", "Disk.__init__", defArgs s_Disk_init, defBody s_Disk_init, defScope s_Disk_init, [], []⟩
def D_Disk_size : He.DefD := ⟨("Disk", some "size"), "size", "Disk.size", defArgs s_Disk_size, defBody s_Disk_size, defScope s_Disk_size, [], []⟩
def D_Disk_read : He.DefD := ⟨("Disk", some "read"), "read", "Disk.read", defArgs s_Disk_read, defBody s_Disk_read, defScope s_Disk_read, [], []⟩
def D_Disk_pending : He.DefD := ⟨("Disk", some "pending"), "pending", "Disk.pending", defArgs s_Disk_pending, defBody s_Disk_pending, defScope s_Disk_pending, [], []⟩
def D_Disk_counts : He.DefD := ⟨("Disk", some "counts"), "counts", "Disk.counts", defArgs s_Disk_counts, defBody s_Disk_counts, defScope s_Disk_counts, [], []⟩
def D_Disk_lose_power : He.DefD := ⟨("Disk", some "lose_power"), "lose_power", "Disk.lose_power", defArgs s_Disk_lose_power, defBody s_Disk_lose_power, defScope s_Disk_lose_power, [], []⟩
def D_Disk_operate : He.DefD := ⟨("Disk", some "operate"), "operate", "Disk.operate", defArgs s_Disk_operate, defBody s_Disk_operate, defScope s_Disk_operate, [], []⟩
def D_Disk_write : He.DefD := ⟨("Disk", some "write"), "write", "Disk.write", defArgs s_Disk_write, defBody s_Disk_write, defScope s_Disk_write, [], []⟩
def D_Disk_sync : He.DefD := ⟨("Disk", some "sync"), "sync", "Disk.sync", defArgs s_Disk_sync, defBody s_Disk_sync, defScope s_Disk_sync, [], []⟩
def D_Disk_fail_after : He.DefD := ⟨("Disk", some "fail_after"), "fail_after", "Disk.fail_after", defArgs s_Disk_fail_after, defBody s_Disk_fail_after, defScope s_Disk_fail_after, [], []⟩
def D_Disk_power : He.DefD := ⟨("Disk", some "power"), "power", "Disk.power", defArgs s_Disk_power, defBody s_Disk_power, defScope s_Disk_power, [], []⟩
def D_Disk_is_on : He.DefD := ⟨("Disk", some "is_on"), "is_on", "Disk.is_on", defArgs s_Disk_is_on, defBody s_Disk_is_on, defScope s_Disk_is_on, [], []⟩
def D_Disk_losses : He.DefD := ⟨("Disk", some "losses"), "losses", "Disk.losses", defArgs s_Disk_losses, defBody s_Disk_losses, defScope s_Disk_losses, [], []⟩
def D_next : He.DefD := ⟨("_law_next", none), "_law_next", "_law_next", defArgs s_next, defBody s_next, defScope s_next, [], []⟩
def D_same : He.DefD := ⟨("_law_same", none), "_law_same", "_law_same", defArgs s_same, defBody s_same, defScope s_same, [], []⟩
def D_refused : He.DefD := ⟨("_law_refused", none), "_law_refused", "_law_refused", defArgs s_refused, defBody s_refused, defScope s_refused, [], []⟩
def D_operate : He.DefD := ⟨("_law_operate", none), "_law_operate", "_law_operate", defArgs s_operate, defBody s_operate, defScope s_operate, [], []⟩
def D_write : He.DefD := ⟨("_law_write", none), "_law_write", "_law_write", defArgs s_write, defBody s_write, defScope s_write, [], []⟩
def D_sync : He.DefD := ⟨("_law_sync", none), "_law_sync", "_law_sync", defArgs s_sync, defBody s_sync, defScope s_sync, [], []⟩
def D_fail : He.DefD := ⟨("_law_fail", none), "_law_fail", "_law_fail", defArgs s_fail, defBody s_fail, defScope s_fail, [], []⟩
def D_power : He.DefD := ⟨("_law_power", none), "_law_power", "_law_power", defArgs s_power, defBody s_power, defScope s_power, [], []⟩
def D_deed : He.DefD := ⟨("_law_deed", none), "_law_deed", "_law_deed", defArgs s_deed, defBody s_deed, defScope s_deed, [], []⟩
def D_sector : He.DefD := ⟨("_law_sector", none), "_law_sector", "_law_sector", defArgs s_sector, defBody s_sector, defScope s_sector, [], []⟩
def D_is_right : He.DefD := ⟨("_law_is_right", none), "_law_is_right", "_law_is_right", defArgs s_is_right, defBody s_is_right, defScope s_is_right, [], []⟩
def D_law : He.DefD := ⟨("law", none), "law", "law", defArgs s_law, defBody s_law, defScope s_law, [], []⟩
def fnL : List He.DefD := [D_Disk_init, D_Disk_size, D_Disk_read, D_Disk_pending, D_Disk_counts, D_Disk_lose_power, D_Disk_operate, D_Disk_write, D_Disk_sync, D_Disk_fail_after, D_Disk_power, D_Disk_is_on, D_Disk_losses, D_next, D_same, D_refused, D_operate, D_write, D_sync, D_fail, D_power, D_deed, D_sector, D_is_right, D_law]
def faL : List He.Fa := [.glo "_law_next", .glo "_law_same", .glo "_law_refused", .glo "_law_operate", .glo "_law_write", .glo "_law_sync", .glo "_law_fail", .glo "_law_power", .glo "_law_deed", .glo "_law_sector", .glo "_law_is_right", .glo "law", .glo "AnswerError", .glo "InvalidArgument", .glo "PowerOff", .glo "Disk", .int "FEWEST" 100, .int "MOST" 600, .int "SECTOR" 256, .free "ValueError", .free "bool", .free "int", .free "isinstance", .free "len", .free "list", .free "min", .free "range", .free "str", .free "tuple", .free "zip", .exc "AnswerError", .exc "InvalidArgument", .exc "PowerOff", .cls "Disk", .mkr "Disk", .noat "Disk" "in_use", .noat "Disk" "lasting", .noat "Disk" "seen", .noat "Disk" "waiting", .noat "Disk" "powered", .noat "Disk" "left", .noat "Disk" "failures", .noat "Disk" "writes", .noat "Disk" "syncs", .meth "Disk" "size", .meth "Disk" "read", .meth "Disk" "pending", .meth "Disk" "counts", .meth "Disk" "lose_power", .meth "Disk" "operate", .meth "Disk" "write", .meth "Disk" "sync", .meth "Disk" "fail_after", .meth "Disk" "power", .meth "Disk" "is_on", .meth "Disk" "losses", .exm "PowerOff" "PowerOff" true, .exm "InvalidArgument" "AnswerError" true]
def exOf (K : PySem.W.Frag) (c : Str) : Bool :=
  decide (PySem.W.findIn K (.ref (He.ga K c)) "__getattribute__" = some (some (.builtin "BaseException.__getattribute__"))) && (decide (PySem.W.findIn K (.ref (He.ga K c)) "__getattr__" = some none) &&
  (decide (PySem.W.subIn K (.ref (He.ga K c)) (.type "BaseException") = some true) && (PySem.W.hasDictIn K (He.ga K c) && (decide (PySem.W.findIn K (.ref (He.ga K c)) "__class__" = some (some (.builtin "object.__class__"))) &&
  (decide (PySem.W.specialIn K (.builtin "object.__class__") "__get__" = some (some (.builtin "getset_descriptor.__get__"))) && (decide (PySem.W.takesIn K (.builtin "object.__class__") = some true) && decide (PySem.W.mroIn K (He.ga K c) (.type "object") = some true)))))))
theorem exOf_ok {K : PySem.W.Frag} {c : Str} (h : exOf K c = true) : ExcC K (He.ga K c) := by
  unfold exOf at h
  simp only [Bool.and_eq_true, decide_eq_true_eq] at h
  obtain ⟨h1, h2, h3, h4, h5, h6, h7, h8⟩ := h
  exact ⟨h1, h2, h3, h4, h5, h6, h7, h8⟩
def exK (K : PySem.W.Frag) : Bool := exOf K "InvalidArgument" && (decide (PySem.W.kitOne K (.ref (He.ga K "InvalidArgument")) (.ref (He.ga K "InvalidArgument")) = some true) && decide (PySem.W.kitOne K (.ref (He.ga K "InvalidArgument")) (.type "ValueError") = some true))
structure Tx (K : PySem.W.Frag) (mg : Str → Option Value) : Prop where
  c : He.SaysD faL fnL K
  ns : ∃ h : Heap, K.In h ∧ h.Ns mainGlobals mg
  ex : exK K = true
section
variable {K : PySem.W.Frag} {mg : Str → Option Value}
theorem Tx.g_next (T : Tx K mg) : mg "_law_next" = some (.ref (He.ga K "_law_next")) := by
  obtain ⟨h, X, G⟩ := T.ns
  exact He.glo_ok X G (T.c.fact 0 (f := .glo "_law_next") rfl)
theorem Tx.g_same (T : Tx K mg) : mg "_law_same" = some (.ref (He.ga K "_law_same")) := by
  obtain ⟨h, X, G⟩ := T.ns
  exact He.glo_ok X G (T.c.fact 1 (f := .glo "_law_same") rfl)
theorem Tx.g_refused (T : Tx K mg) : mg "_law_refused" = some (.ref (He.ga K "_law_refused")) := by
  obtain ⟨h, X, G⟩ := T.ns
  exact He.glo_ok X G (T.c.fact 2 (f := .glo "_law_refused") rfl)
theorem Tx.g_operate (T : Tx K mg) : mg "_law_operate" = some (.ref (He.ga K "_law_operate")) := by
  obtain ⟨h, X, G⟩ := T.ns
  exact He.glo_ok X G (T.c.fact 3 (f := .glo "_law_operate") rfl)
theorem Tx.g_write (T : Tx K mg) : mg "_law_write" = some (.ref (He.ga K "_law_write")) := by
  obtain ⟨h, X, G⟩ := T.ns
  exact He.glo_ok X G (T.c.fact 4 (f := .glo "_law_write") rfl)
theorem Tx.g_sync (T : Tx K mg) : mg "_law_sync" = some (.ref (He.ga K "_law_sync")) := by
  obtain ⟨h, X, G⟩ := T.ns
  exact He.glo_ok X G (T.c.fact 5 (f := .glo "_law_sync") rfl)
theorem Tx.g_fail (T : Tx K mg) : mg "_law_fail" = some (.ref (He.ga K "_law_fail")) := by
  obtain ⟨h, X, G⟩ := T.ns
  exact He.glo_ok X G (T.c.fact 6 (f := .glo "_law_fail") rfl)
theorem Tx.g_power (T : Tx K mg) : mg "_law_power" = some (.ref (He.ga K "_law_power")) := by
  obtain ⟨h, X, G⟩ := T.ns
  exact He.glo_ok X G (T.c.fact 7 (f := .glo "_law_power") rfl)
theorem Tx.g_deed (T : Tx K mg) : mg "_law_deed" = some (.ref (He.ga K "_law_deed")) := by
  obtain ⟨h, X, G⟩ := T.ns
  exact He.glo_ok X G (T.c.fact 8 (f := .glo "_law_deed") rfl)
theorem Tx.g_sector (T : Tx K mg) : mg "_law_sector" = some (.ref (He.ga K "_law_sector")) := by
  obtain ⟨h, X, G⟩ := T.ns
  exact He.glo_ok X G (T.c.fact 9 (f := .glo "_law_sector") rfl)
theorem Tx.g_is_right (T : Tx K mg) : mg "_law_is_right" = some (.ref (He.ga K "_law_is_right")) := by
  obtain ⟨h, X, G⟩ := T.ns
  exact He.glo_ok X G (T.c.fact 10 (f := .glo "_law_is_right") rfl)
theorem Tx.g_law (T : Tx K mg) : mg "law" = some (.ref (He.ga K "law")) := by
  obtain ⟨h, X, G⟩ := T.ns
  exact He.glo_ok X G (T.c.fact 11 (f := .glo "law") rfl)
theorem Tx.g_AnswerError (T : Tx K mg) : mg "AnswerError" = some (.ref (He.ga K "AnswerError")) := by
  obtain ⟨h, X, G⟩ := T.ns
  exact He.glo_ok X G (T.c.fact 12 (f := .glo "AnswerError") rfl)
theorem Tx.g_InvalidArgument (T : Tx K mg) : mg "InvalidArgument" = some (.ref (He.ga K "InvalidArgument")) := by
  obtain ⟨h, X, G⟩ := T.ns
  exact He.glo_ok X G (T.c.fact 13 (f := .glo "InvalidArgument") rfl)
theorem Tx.g_PowerOff (T : Tx K mg) : mg "PowerOff" = some (.ref (He.ga K "PowerOff")) := by
  obtain ⟨h, X, G⟩ := T.ns
  exact He.glo_ok X G (T.c.fact 14 (f := .glo "PowerOff") rfl)
theorem Tx.g_Disk (T : Tx K mg) : mg "Disk" = some (.ref (He.ga K "Disk")) := by
  obtain ⟨h, X, G⟩ := T.ns
  exact He.glo_ok X G (T.c.fact 15 (f := .glo "Disk") rfl)
theorem Tx.i_FEWEST (T : Tx K mg) : ∃ t, mg "FEWEST" = some (.int 100 t) := by
  obtain ⟨h, X, G⟩ := T.ns
  exact He.int_ok X G (T.c.fact 16 (f := .int "FEWEST" 100) rfl)
theorem Tx.i_MOST (T : Tx K mg) : ∃ t, mg "MOST" = some (.int 600 t) := by
  obtain ⟨h, X, G⟩ := T.ns
  exact He.int_ok X G (T.c.fact 17 (f := .int "MOST" 600) rfl)
theorem Tx.i_SECTOR (T : Tx K mg) : ∃ t, mg "SECTOR" = some (.int 256 t) := by
  obtain ⟨h, X, G⟩ := T.ns
  exact He.int_ok X G (T.c.fact 18 (f := .int "SECTOR" 256) rfl)
theorem Tx.f_ValueError (T : Tx K mg) : mg "ValueError" = none := by
  obtain ⟨h, X, G⟩ := T.ns
  exact He.free_ok X G (T.c.fact 19 (f := .free "ValueError") rfl)
theorem Tx.f_bool (T : Tx K mg) : mg "bool" = none := by
  obtain ⟨h, X, G⟩ := T.ns
  exact He.free_ok X G (T.c.fact 20 (f := .free "bool") rfl)
theorem Tx.f_int (T : Tx K mg) : mg "int" = none := by
  obtain ⟨h, X, G⟩ := T.ns
  exact He.free_ok X G (T.c.fact 21 (f := .free "int") rfl)
theorem Tx.f_isinstance (T : Tx K mg) : mg "isinstance" = none := by
  obtain ⟨h, X, G⟩ := T.ns
  exact He.free_ok X G (T.c.fact 22 (f := .free "isinstance") rfl)
theorem Tx.f_len (T : Tx K mg) : mg "len" = none := by
  obtain ⟨h, X, G⟩ := T.ns
  exact He.free_ok X G (T.c.fact 23 (f := .free "len") rfl)
theorem Tx.f_list (T : Tx K mg) : mg "list" = none := by
  obtain ⟨h, X, G⟩ := T.ns
  exact He.free_ok X G (T.c.fact 24 (f := .free "list") rfl)
theorem Tx.f_min (T : Tx K mg) : mg "min" = none := by
  obtain ⟨h, X, G⟩ := T.ns
  exact He.free_ok X G (T.c.fact 25 (f := .free "min") rfl)
theorem Tx.f_range (T : Tx K mg) : mg "range" = none := by
  obtain ⟨h, X, G⟩ := T.ns
  exact He.free_ok X G (T.c.fact 26 (f := .free "range") rfl)
theorem Tx.f_str (T : Tx K mg) : mg "str" = none := by
  obtain ⟨h, X, G⟩ := T.ns
  exact He.free_ok X G (T.c.fact 27 (f := .free "str") rfl)
theorem Tx.f_tuple (T : Tx K mg) : mg "tuple" = none := by
  obtain ⟨h, X, G⟩ := T.ns
  exact He.free_ok X G (T.c.fact 28 (f := .free "tuple") rfl)
theorem Tx.f_zip (T : Tx K mg) : mg "zip" = none := by
  obtain ⟨h, X, G⟩ := T.ns
  exact He.free_ok X G (T.c.fact 29 (f := .free "zip") rfl)
theorem Tx.x_AnswerError (T : Tx K mg) : PySem.W.excIn K (He.ga K "AnswerError") He.veBase "ValueError.__new__" = true ∧ PySem.W.keepIn K (.ref (He.ga K "AnswerError")) = true ∧ PySem.W.subIn K (.ref (He.ga K "AnswerError")) (.type "BaseException") = some true ∧ PySem.W.typeIn K (.ref (He.ga K "AnswerError")) = some (.type "type") := He.exc_ok (T.c.fact 30 (f := .exc "AnswerError") rfl)
theorem Tx.x_InvalidArgument (T : Tx K mg) : PySem.W.excIn K (He.ga K "InvalidArgument") He.veBase "ValueError.__new__" = true ∧ PySem.W.keepIn K (.ref (He.ga K "InvalidArgument")) = true ∧ PySem.W.subIn K (.ref (He.ga K "InvalidArgument")) (.type "BaseException") = some true ∧ PySem.W.typeIn K (.ref (He.ga K "InvalidArgument")) = some (.type "type") := He.exc_ok (T.c.fact 31 (f := .exc "InvalidArgument") rfl)
theorem Tx.x_PowerOff (T : Tx K mg) : PySem.W.excIn K (He.ga K "PowerOff") He.veBase "ValueError.__new__" = true ∧ PySem.W.keepIn K (.ref (He.ga K "PowerOff")) = true ∧ PySem.W.subIn K (.ref (He.ga K "PowerOff")) (.type "BaseException") = some true ∧ PySem.W.typeIn K (.ref (He.ga K "PowerOff")) = some (.type "type") := He.exc_ok (T.c.fact 32 (f := .exc "PowerOff") rfl)
theorem Tx.c_Disk (T : Tx K mg) : Cls K (He.ga K "Disk") := He.cls_ok (T.c.fact 33 (f := .cls "Disk") rfl)
theorem Tx.k_Disk (T : Tx K mg) : Mk K (He.ga K "Disk") (He.ma K (He.ga K "Disk") "__init__") := He.mkr_ok (T.c.fact 34 (f := .mkr "Disk") rfl)
theorem Tx.n_Disk_in_use (T : Tx K mg) : NoAttr K (He.ga K "Disk") "in_use" := He.noat_ok (T.c.fact 35 (f := .noat "Disk" "in_use") rfl)
theorem Tx.n_Disk_lasting (T : Tx K mg) : NoAttr K (He.ga K "Disk") "lasting" := He.noat_ok (T.c.fact 36 (f := .noat "Disk" "lasting") rfl)
theorem Tx.n_Disk_seen (T : Tx K mg) : NoAttr K (He.ga K "Disk") "seen" := He.noat_ok (T.c.fact 37 (f := .noat "Disk" "seen") rfl)
theorem Tx.n_Disk_waiting (T : Tx K mg) : NoAttr K (He.ga K "Disk") "waiting" := He.noat_ok (T.c.fact 38 (f := .noat "Disk" "waiting") rfl)
theorem Tx.n_Disk_powered (T : Tx K mg) : NoAttr K (He.ga K "Disk") "powered" := He.noat_ok (T.c.fact 39 (f := .noat "Disk" "powered") rfl)
theorem Tx.n_Disk_left (T : Tx K mg) : NoAttr K (He.ga K "Disk") "left" := He.noat_ok (T.c.fact 40 (f := .noat "Disk" "left") rfl)
theorem Tx.n_Disk_failures (T : Tx K mg) : NoAttr K (He.ga K "Disk") "failures" := He.noat_ok (T.c.fact 41 (f := .noat "Disk" "failures") rfl)
theorem Tx.n_Disk_writes (T : Tx K mg) : NoAttr K (He.ga K "Disk") "writes" := He.noat_ok (T.c.fact 42 (f := .noat "Disk" "writes") rfl)
theorem Tx.n_Disk_syncs (T : Tx K mg) : NoAttr K (He.ga K "Disk") "syncs" := He.noat_ok (T.c.fact 43 (f := .noat "Disk" "syncs") rfl)
theorem Tx.m_Disk_size (T : Tx K mg) : Meth K (He.ga K "Disk") "size" (He.ma K (He.ga K "Disk") "size") := He.meth_ok (T.c.fact 44 (f := .meth "Disk" "size") rfl)
theorem Tx.m_Disk_read (T : Tx K mg) : Meth K (He.ga K "Disk") "read" (He.ma K (He.ga K "Disk") "read") := He.meth_ok (T.c.fact 45 (f := .meth "Disk" "read") rfl)
theorem Tx.m_Disk_pending (T : Tx K mg) : Meth K (He.ga K "Disk") "pending" (He.ma K (He.ga K "Disk") "pending") := He.meth_ok (T.c.fact 46 (f := .meth "Disk" "pending") rfl)
theorem Tx.m_Disk_counts (T : Tx K mg) : Meth K (He.ga K "Disk") "counts" (He.ma K (He.ga K "Disk") "counts") := He.meth_ok (T.c.fact 47 (f := .meth "Disk" "counts") rfl)
theorem Tx.m_Disk_lose_power (T : Tx K mg) : Meth K (He.ga K "Disk") "lose_power" (He.ma K (He.ga K "Disk") "lose_power") := He.meth_ok (T.c.fact 48 (f := .meth "Disk" "lose_power") rfl)
theorem Tx.m_Disk_operate (T : Tx K mg) : Meth K (He.ga K "Disk") "operate" (He.ma K (He.ga K "Disk") "operate") := He.meth_ok (T.c.fact 49 (f := .meth "Disk" "operate") rfl)
theorem Tx.m_Disk_write (T : Tx K mg) : Meth K (He.ga K "Disk") "write" (He.ma K (He.ga K "Disk") "write") := He.meth_ok (T.c.fact 50 (f := .meth "Disk" "write") rfl)
theorem Tx.m_Disk_sync (T : Tx K mg) : Meth K (He.ga K "Disk") "sync" (He.ma K (He.ga K "Disk") "sync") := He.meth_ok (T.c.fact 51 (f := .meth "Disk" "sync") rfl)
theorem Tx.m_Disk_fail_after (T : Tx K mg) : Meth K (He.ga K "Disk") "fail_after" (He.ma K (He.ga K "Disk") "fail_after") := He.meth_ok (T.c.fact 52 (f := .meth "Disk" "fail_after") rfl)
theorem Tx.m_Disk_power (T : Tx K mg) : Meth K (He.ga K "Disk") "power" (He.ma K (He.ga K "Disk") "power") := He.meth_ok (T.c.fact 53 (f := .meth "Disk" "power") rfl)
theorem Tx.m_Disk_is_on (T : Tx K mg) : Meth K (He.ga K "Disk") "is_on" (He.ma K (He.ga K "Disk") "is_on") := He.meth_ok (T.c.fact 54 (f := .meth "Disk" "is_on") rfl)
theorem Tx.m_Disk_losses (T : Tx K mg) : Meth K (He.ga K "Disk") "losses" (He.ma K (He.ga K "Disk") "losses") := He.meth_ok (T.c.fact 55 (f := .meth "Disk" "losses") rfl)
theorem Tx.e_PowerOff_PowerOff (T : Tx K mg) : PySem.W.exmOne K (.ref (He.ga K "PowerOff")) (.ref (He.ga K "PowerOff")) = some true := He.exm_ok (T.c.fact 56 (f := .exm "PowerOff" "PowerOff" true) rfl)
theorem Tx.e_InvalidArgument_AnswerError (T : Tx K mg) : PySem.W.exmOne K (.ref (He.ga K "InvalidArgument")) (.ref (He.ga K "AnswerError")) = some true := He.exm_ok (T.c.fact 57 (f := .exm "InvalidArgument" "AnswerError" true) rfl)
end
theorem sn_Disk_in_use_lasting : (("in_use" : Str) = ("lasting" : Str)) = False := by
  have h : (("in_use" : Str) = ("lasting" : Str)) ↔ False := ⟨fun h => absurd h (by decide +kernel), False.elim⟩
  exact propext h
theorem sn_Disk_in_use_seen : (("in_use" : Str) = ("seen" : Str)) = False := by
  have h : (("in_use" : Str) = ("seen" : Str)) ↔ False := ⟨fun h => absurd h (by decide +kernel), False.elim⟩
  exact propext h
theorem sn_Disk_in_use_waiting : (("in_use" : Str) = ("waiting" : Str)) = False := by
  have h : (("in_use" : Str) = ("waiting" : Str)) ↔ False := ⟨fun h => absurd h (by decide +kernel), False.elim⟩
  exact propext h
theorem sn_Disk_in_use_powered : (("in_use" : Str) = ("powered" : Str)) = False := by
  have h : (("in_use" : Str) = ("powered" : Str)) ↔ False := ⟨fun h => absurd h (by decide +kernel), False.elim⟩
  exact propext h
theorem sn_Disk_in_use_left : (("in_use" : Str) = ("left" : Str)) = False := by
  have h : (("in_use" : Str) = ("left" : Str)) ↔ False := ⟨fun h => absurd h (by decide +kernel), False.elim⟩
  exact propext h
theorem sn_Disk_in_use_failures : (("in_use" : Str) = ("failures" : Str)) = False := by
  have h : (("in_use" : Str) = ("failures" : Str)) ↔ False := ⟨fun h => absurd h (by decide +kernel), False.elim⟩
  exact propext h
theorem sn_Disk_in_use_writes : (("in_use" : Str) = ("writes" : Str)) = False := by
  have h : (("in_use" : Str) = ("writes" : Str)) ↔ False := ⟨fun h => absurd h (by decide +kernel), False.elim⟩
  exact propext h
theorem sn_Disk_in_use_syncs : (("in_use" : Str) = ("syncs" : Str)) = False := by
  have h : (("in_use" : Str) = ("syncs" : Str)) ↔ False := ⟨fun h => absurd h (by decide +kernel), False.elim⟩
  exact propext h
theorem sn_Disk_lasting_in_use : (("lasting" : Str) = ("in_use" : Str)) = False := by
  have h : (("lasting" : Str) = ("in_use" : Str)) ↔ False := ⟨fun h => absurd h (by decide +kernel), False.elim⟩
  exact propext h
theorem sn_Disk_lasting_seen : (("lasting" : Str) = ("seen" : Str)) = False := by
  have h : (("lasting" : Str) = ("seen" : Str)) ↔ False := ⟨fun h => absurd h (by decide +kernel), False.elim⟩
  exact propext h
theorem sn_Disk_lasting_waiting : (("lasting" : Str) = ("waiting" : Str)) = False := by
  have h : (("lasting" : Str) = ("waiting" : Str)) ↔ False := ⟨fun h => absurd h (by decide +kernel), False.elim⟩
  exact propext h
theorem sn_Disk_lasting_powered : (("lasting" : Str) = ("powered" : Str)) = False := by
  have h : (("lasting" : Str) = ("powered" : Str)) ↔ False := ⟨fun h => absurd h (by decide +kernel), False.elim⟩
  exact propext h
theorem sn_Disk_lasting_left : (("lasting" : Str) = ("left" : Str)) = False := by
  have h : (("lasting" : Str) = ("left" : Str)) ↔ False := ⟨fun h => absurd h (by decide +kernel), False.elim⟩
  exact propext h
theorem sn_Disk_lasting_failures : (("lasting" : Str) = ("failures" : Str)) = False := by
  have h : (("lasting" : Str) = ("failures" : Str)) ↔ False := ⟨fun h => absurd h (by decide +kernel), False.elim⟩
  exact propext h
theorem sn_Disk_lasting_writes : (("lasting" : Str) = ("writes" : Str)) = False := by
  have h : (("lasting" : Str) = ("writes" : Str)) ↔ False := ⟨fun h => absurd h (by decide +kernel), False.elim⟩
  exact propext h
theorem sn_Disk_lasting_syncs : (("lasting" : Str) = ("syncs" : Str)) = False := by
  have h : (("lasting" : Str) = ("syncs" : Str)) ↔ False := ⟨fun h => absurd h (by decide +kernel), False.elim⟩
  exact propext h
theorem sn_Disk_seen_in_use : (("seen" : Str) = ("in_use" : Str)) = False := by
  have h : (("seen" : Str) = ("in_use" : Str)) ↔ False := ⟨fun h => absurd h (by decide +kernel), False.elim⟩
  exact propext h
theorem sn_Disk_seen_lasting : (("seen" : Str) = ("lasting" : Str)) = False := by
  have h : (("seen" : Str) = ("lasting" : Str)) ↔ False := ⟨fun h => absurd h (by decide +kernel), False.elim⟩
  exact propext h
theorem sn_Disk_seen_waiting : (("seen" : Str) = ("waiting" : Str)) = False := by
  have h : (("seen" : Str) = ("waiting" : Str)) ↔ False := ⟨fun h => absurd h (by decide +kernel), False.elim⟩
  exact propext h
theorem sn_Disk_seen_powered : (("seen" : Str) = ("powered" : Str)) = False := by
  have h : (("seen" : Str) = ("powered" : Str)) ↔ False := ⟨fun h => absurd h (by decide +kernel), False.elim⟩
  exact propext h
theorem sn_Disk_seen_left : (("seen" : Str) = ("left" : Str)) = False := by
  have h : (("seen" : Str) = ("left" : Str)) ↔ False := ⟨fun h => absurd h (by decide +kernel), False.elim⟩
  exact propext h
theorem sn_Disk_seen_failures : (("seen" : Str) = ("failures" : Str)) = False := by
  have h : (("seen" : Str) = ("failures" : Str)) ↔ False := ⟨fun h => absurd h (by decide +kernel), False.elim⟩
  exact propext h
theorem sn_Disk_seen_writes : (("seen" : Str) = ("writes" : Str)) = False := by
  have h : (("seen" : Str) = ("writes" : Str)) ↔ False := ⟨fun h => absurd h (by decide +kernel), False.elim⟩
  exact propext h
theorem sn_Disk_seen_syncs : (("seen" : Str) = ("syncs" : Str)) = False := by
  have h : (("seen" : Str) = ("syncs" : Str)) ↔ False := ⟨fun h => absurd h (by decide +kernel), False.elim⟩
  exact propext h
theorem sn_Disk_waiting_in_use : (("waiting" : Str) = ("in_use" : Str)) = False := by
  have h : (("waiting" : Str) = ("in_use" : Str)) ↔ False := ⟨fun h => absurd h (by decide +kernel), False.elim⟩
  exact propext h
theorem sn_Disk_waiting_lasting : (("waiting" : Str) = ("lasting" : Str)) = False := by
  have h : (("waiting" : Str) = ("lasting" : Str)) ↔ False := ⟨fun h => absurd h (by decide +kernel), False.elim⟩
  exact propext h
theorem sn_Disk_waiting_seen : (("waiting" : Str) = ("seen" : Str)) = False := by
  have h : (("waiting" : Str) = ("seen" : Str)) ↔ False := ⟨fun h => absurd h (by decide +kernel), False.elim⟩
  exact propext h
theorem sn_Disk_waiting_powered : (("waiting" : Str) = ("powered" : Str)) = False := by
  have h : (("waiting" : Str) = ("powered" : Str)) ↔ False := ⟨fun h => absurd h (by decide +kernel), False.elim⟩
  exact propext h
theorem sn_Disk_waiting_left : (("waiting" : Str) = ("left" : Str)) = False := by
  have h : (("waiting" : Str) = ("left" : Str)) ↔ False := ⟨fun h => absurd h (by decide +kernel), False.elim⟩
  exact propext h
theorem sn_Disk_waiting_failures : (("waiting" : Str) = ("failures" : Str)) = False := by
  have h : (("waiting" : Str) = ("failures" : Str)) ↔ False := ⟨fun h => absurd h (by decide +kernel), False.elim⟩
  exact propext h
theorem sn_Disk_waiting_writes : (("waiting" : Str) = ("writes" : Str)) = False := by
  have h : (("waiting" : Str) = ("writes" : Str)) ↔ False := ⟨fun h => absurd h (by decide +kernel), False.elim⟩
  exact propext h
theorem sn_Disk_waiting_syncs : (("waiting" : Str) = ("syncs" : Str)) = False := by
  have h : (("waiting" : Str) = ("syncs" : Str)) ↔ False := ⟨fun h => absurd h (by decide +kernel), False.elim⟩
  exact propext h
theorem sn_Disk_powered_in_use : (("powered" : Str) = ("in_use" : Str)) = False := by
  have h : (("powered" : Str) = ("in_use" : Str)) ↔ False := ⟨fun h => absurd h (by decide +kernel), False.elim⟩
  exact propext h
theorem sn_Disk_powered_lasting : (("powered" : Str) = ("lasting" : Str)) = False := by
  have h : (("powered" : Str) = ("lasting" : Str)) ↔ False := ⟨fun h => absurd h (by decide +kernel), False.elim⟩
  exact propext h
theorem sn_Disk_powered_seen : (("powered" : Str) = ("seen" : Str)) = False := by
  have h : (("powered" : Str) = ("seen" : Str)) ↔ False := ⟨fun h => absurd h (by decide +kernel), False.elim⟩
  exact propext h
theorem sn_Disk_powered_waiting : (("powered" : Str) = ("waiting" : Str)) = False := by
  have h : (("powered" : Str) = ("waiting" : Str)) ↔ False := ⟨fun h => absurd h (by decide +kernel), False.elim⟩
  exact propext h
theorem sn_Disk_powered_left : (("powered" : Str) = ("left" : Str)) = False := by
  have h : (("powered" : Str) = ("left" : Str)) ↔ False := ⟨fun h => absurd h (by decide +kernel), False.elim⟩
  exact propext h
theorem sn_Disk_powered_failures : (("powered" : Str) = ("failures" : Str)) = False := by
  have h : (("powered" : Str) = ("failures" : Str)) ↔ False := ⟨fun h => absurd h (by decide +kernel), False.elim⟩
  exact propext h
theorem sn_Disk_powered_writes : (("powered" : Str) = ("writes" : Str)) = False := by
  have h : (("powered" : Str) = ("writes" : Str)) ↔ False := ⟨fun h => absurd h (by decide +kernel), False.elim⟩
  exact propext h
theorem sn_Disk_powered_syncs : (("powered" : Str) = ("syncs" : Str)) = False := by
  have h : (("powered" : Str) = ("syncs" : Str)) ↔ False := ⟨fun h => absurd h (by decide +kernel), False.elim⟩
  exact propext h
theorem sn_Disk_left_in_use : (("left" : Str) = ("in_use" : Str)) = False := by
  have h : (("left" : Str) = ("in_use" : Str)) ↔ False := ⟨fun h => absurd h (by decide +kernel), False.elim⟩
  exact propext h
theorem sn_Disk_left_lasting : (("left" : Str) = ("lasting" : Str)) = False := by
  have h : (("left" : Str) = ("lasting" : Str)) ↔ False := ⟨fun h => absurd h (by decide +kernel), False.elim⟩
  exact propext h
theorem sn_Disk_left_seen : (("left" : Str) = ("seen" : Str)) = False := by
  have h : (("left" : Str) = ("seen" : Str)) ↔ False := ⟨fun h => absurd h (by decide +kernel), False.elim⟩
  exact propext h
theorem sn_Disk_left_waiting : (("left" : Str) = ("waiting" : Str)) = False := by
  have h : (("left" : Str) = ("waiting" : Str)) ↔ False := ⟨fun h => absurd h (by decide +kernel), False.elim⟩
  exact propext h
theorem sn_Disk_left_powered : (("left" : Str) = ("powered" : Str)) = False := by
  have h : (("left" : Str) = ("powered" : Str)) ↔ False := ⟨fun h => absurd h (by decide +kernel), False.elim⟩
  exact propext h
theorem sn_Disk_left_failures : (("left" : Str) = ("failures" : Str)) = False := by
  have h : (("left" : Str) = ("failures" : Str)) ↔ False := ⟨fun h => absurd h (by decide +kernel), False.elim⟩
  exact propext h
theorem sn_Disk_left_writes : (("left" : Str) = ("writes" : Str)) = False := by
  have h : (("left" : Str) = ("writes" : Str)) ↔ False := ⟨fun h => absurd h (by decide +kernel), False.elim⟩
  exact propext h
theorem sn_Disk_left_syncs : (("left" : Str) = ("syncs" : Str)) = False := by
  have h : (("left" : Str) = ("syncs" : Str)) ↔ False := ⟨fun h => absurd h (by decide +kernel), False.elim⟩
  exact propext h
theorem sn_Disk_failures_in_use : (("failures" : Str) = ("in_use" : Str)) = False := by
  have h : (("failures" : Str) = ("in_use" : Str)) ↔ False := ⟨fun h => absurd h (by decide +kernel), False.elim⟩
  exact propext h
theorem sn_Disk_failures_lasting : (("failures" : Str) = ("lasting" : Str)) = False := by
  have h : (("failures" : Str) = ("lasting" : Str)) ↔ False := ⟨fun h => absurd h (by decide +kernel), False.elim⟩
  exact propext h
theorem sn_Disk_failures_seen : (("failures" : Str) = ("seen" : Str)) = False := by
  have h : (("failures" : Str) = ("seen" : Str)) ↔ False := ⟨fun h => absurd h (by decide +kernel), False.elim⟩
  exact propext h
theorem sn_Disk_failures_waiting : (("failures" : Str) = ("waiting" : Str)) = False := by
  have h : (("failures" : Str) = ("waiting" : Str)) ↔ False := ⟨fun h => absurd h (by decide +kernel), False.elim⟩
  exact propext h
theorem sn_Disk_failures_powered : (("failures" : Str) = ("powered" : Str)) = False := by
  have h : (("failures" : Str) = ("powered" : Str)) ↔ False := ⟨fun h => absurd h (by decide +kernel), False.elim⟩
  exact propext h
theorem sn_Disk_failures_left : (("failures" : Str) = ("left" : Str)) = False := by
  have h : (("failures" : Str) = ("left" : Str)) ↔ False := ⟨fun h => absurd h (by decide +kernel), False.elim⟩
  exact propext h
theorem sn_Disk_failures_writes : (("failures" : Str) = ("writes" : Str)) = False := by
  have h : (("failures" : Str) = ("writes" : Str)) ↔ False := ⟨fun h => absurd h (by decide +kernel), False.elim⟩
  exact propext h
theorem sn_Disk_failures_syncs : (("failures" : Str) = ("syncs" : Str)) = False := by
  have h : (("failures" : Str) = ("syncs" : Str)) ↔ False := ⟨fun h => absurd h (by decide +kernel), False.elim⟩
  exact propext h
theorem sn_Disk_writes_in_use : (("writes" : Str) = ("in_use" : Str)) = False := by
  have h : (("writes" : Str) = ("in_use" : Str)) ↔ False := ⟨fun h => absurd h (by decide +kernel), False.elim⟩
  exact propext h
theorem sn_Disk_writes_lasting : (("writes" : Str) = ("lasting" : Str)) = False := by
  have h : (("writes" : Str) = ("lasting" : Str)) ↔ False := ⟨fun h => absurd h (by decide +kernel), False.elim⟩
  exact propext h
theorem sn_Disk_writes_seen : (("writes" : Str) = ("seen" : Str)) = False := by
  have h : (("writes" : Str) = ("seen" : Str)) ↔ False := ⟨fun h => absurd h (by decide +kernel), False.elim⟩
  exact propext h
theorem sn_Disk_writes_waiting : (("writes" : Str) = ("waiting" : Str)) = False := by
  have h : (("writes" : Str) = ("waiting" : Str)) ↔ False := ⟨fun h => absurd h (by decide +kernel), False.elim⟩
  exact propext h
theorem sn_Disk_writes_powered : (("writes" : Str) = ("powered" : Str)) = False := by
  have h : (("writes" : Str) = ("powered" : Str)) ↔ False := ⟨fun h => absurd h (by decide +kernel), False.elim⟩
  exact propext h
theorem sn_Disk_writes_left : (("writes" : Str) = ("left" : Str)) = False := by
  have h : (("writes" : Str) = ("left" : Str)) ↔ False := ⟨fun h => absurd h (by decide +kernel), False.elim⟩
  exact propext h
theorem sn_Disk_writes_failures : (("writes" : Str) = ("failures" : Str)) = False := by
  have h : (("writes" : Str) = ("failures" : Str)) ↔ False := ⟨fun h => absurd h (by decide +kernel), False.elim⟩
  exact propext h
theorem sn_Disk_writes_syncs : (("writes" : Str) = ("syncs" : Str)) = False := by
  have h : (("writes" : Str) = ("syncs" : Str)) ↔ False := ⟨fun h => absurd h (by decide +kernel), False.elim⟩
  exact propext h
theorem sn_Disk_syncs_in_use : (("syncs" : Str) = ("in_use" : Str)) = False := by
  have h : (("syncs" : Str) = ("in_use" : Str)) ↔ False := ⟨fun h => absurd h (by decide +kernel), False.elim⟩
  exact propext h
theorem sn_Disk_syncs_lasting : (("syncs" : Str) = ("lasting" : Str)) = False := by
  have h : (("syncs" : Str) = ("lasting" : Str)) ↔ False := ⟨fun h => absurd h (by decide +kernel), False.elim⟩
  exact propext h
theorem sn_Disk_syncs_seen : (("syncs" : Str) = ("seen" : Str)) = False := by
  have h : (("syncs" : Str) = ("seen" : Str)) ↔ False := ⟨fun h => absurd h (by decide +kernel), False.elim⟩
  exact propext h
theorem sn_Disk_syncs_waiting : (("syncs" : Str) = ("waiting" : Str)) = False := by
  have h : (("syncs" : Str) = ("waiting" : Str)) ↔ False := ⟨fun h => absurd h (by decide +kernel), False.elim⟩
  exact propext h
theorem sn_Disk_syncs_powered : (("syncs" : Str) = ("powered" : Str)) = False := by
  have h : (("syncs" : Str) = ("powered" : Str)) ↔ False := ⟨fun h => absurd h (by decide +kernel), False.elim⟩
  exact propext h
theorem sn_Disk_syncs_left : (("syncs" : Str) = ("left" : Str)) = False := by
  have h : (("syncs" : Str) = ("left" : Str)) ↔ False := ⟨fun h => absurd h (by decide +kernel), False.elim⟩
  exact propext h
theorem sn_Disk_syncs_failures : (("syncs" : Str) = ("failures" : Str)) = False := by
  have h : (("syncs" : Str) = ("failures" : Str)) ↔ False := ⟨fun h => absurd h (by decide +kernel), False.elim⟩
  exact propext h
theorem sn_Disk_syncs_writes : (("syncs" : Str) = ("writes" : Str)) = False := by
  have h : (("syncs" : Str) = ("writes" : Str)) ↔ False := ⟨fun h => absurd h (by decide +kernel), False.elim⟩
  exact propext h
structure F_Disk where
  mk ::
  f_in_use : V
  f_lasting : V
  f_seen : V
  f_waiting : V
  f_powered : V
  f_left : V
  f_failures : V
  f_writes : V
  f_syncs : V
def F_Disk.fl (D : F_Disk) : List (Str × V) := [("in_use", D.f_in_use), ("lasting", D.f_lasting), ("seen", D.f_seen), ("waiting", D.f_waiting), ("powered", D.f_powered), ("left", D.f_left), ("failures", D.f_failures), ("writes", D.f_writes), ("syncs", D.f_syncs)]
@[reducible] def F_Disk.put_in_use (v : V) (D : F_Disk) : F_Disk := ⟨v, D.f_lasting, D.f_seen, D.f_waiting, D.f_powered, D.f_left, D.f_failures, D.f_writes, D.f_syncs⟩
@[reducible] def F_Disk.put_lasting (v : V) (D : F_Disk) : F_Disk := ⟨D.f_in_use, v, D.f_seen, D.f_waiting, D.f_powered, D.f_left, D.f_failures, D.f_writes, D.f_syncs⟩
@[reducible] def F_Disk.put_seen (v : V) (D : F_Disk) : F_Disk := ⟨D.f_in_use, D.f_lasting, v, D.f_waiting, D.f_powered, D.f_left, D.f_failures, D.f_writes, D.f_syncs⟩
@[reducible] def F_Disk.put_waiting (v : V) (D : F_Disk) : F_Disk := ⟨D.f_in_use, D.f_lasting, D.f_seen, v, D.f_powered, D.f_left, D.f_failures, D.f_writes, D.f_syncs⟩
@[reducible] def F_Disk.put_powered (v : V) (D : F_Disk) : F_Disk := ⟨D.f_in_use, D.f_lasting, D.f_seen, D.f_waiting, v, D.f_left, D.f_failures, D.f_writes, D.f_syncs⟩
@[reducible] def F_Disk.put_left (v : V) (D : F_Disk) : F_Disk := ⟨D.f_in_use, D.f_lasting, D.f_seen, D.f_waiting, D.f_powered, v, D.f_failures, D.f_writes, D.f_syncs⟩
@[reducible] def F_Disk.put_failures (v : V) (D : F_Disk) : F_Disk := ⟨D.f_in_use, D.f_lasting, D.f_seen, D.f_waiting, D.f_powered, D.f_left, v, D.f_writes, D.f_syncs⟩
@[reducible] def F_Disk.put_writes (v : V) (D : F_Disk) : F_Disk := ⟨D.f_in_use, D.f_lasting, D.f_seen, D.f_waiting, D.f_powered, D.f_left, D.f_failures, v, D.f_syncs⟩
@[reducible] def F_Disk.put_syncs (v : V) (D : F_Disk) : F_Disk := ⟨D.f_in_use, D.f_lasting, D.f_seen, D.f_waiting, D.f_powered, D.f_left, D.f_failures, D.f_writes, v⟩
theorem se_Disk_in_use_lasting : (("in_use" : Str) == ("lasting" : Str)) = false := by decide +kernel
theorem se_Disk_in_use_seen : (("in_use" : Str) == ("seen" : Str)) = false := by decide +kernel
theorem se_Disk_in_use_waiting : (("in_use" : Str) == ("waiting" : Str)) = false := by decide +kernel
theorem se_Disk_in_use_powered : (("in_use" : Str) == ("powered" : Str)) = false := by decide +kernel
theorem se_Disk_in_use_left : (("in_use" : Str) == ("left" : Str)) = false := by decide +kernel
theorem se_Disk_in_use_failures : (("in_use" : Str) == ("failures" : Str)) = false := by decide +kernel
theorem se_Disk_in_use_writes : (("in_use" : Str) == ("writes" : Str)) = false := by decide +kernel
theorem se_Disk_in_use_syncs : (("in_use" : Str) == ("syncs" : Str)) = false := by decide +kernel
theorem se_Disk_lasting_in_use : (("lasting" : Str) == ("in_use" : Str)) = false := by decide +kernel
theorem se_Disk_lasting_seen : (("lasting" : Str) == ("seen" : Str)) = false := by decide +kernel
theorem se_Disk_lasting_waiting : (("lasting" : Str) == ("waiting" : Str)) = false := by decide +kernel
theorem se_Disk_lasting_powered : (("lasting" : Str) == ("powered" : Str)) = false := by decide +kernel
theorem se_Disk_lasting_left : (("lasting" : Str) == ("left" : Str)) = false := by decide +kernel
theorem se_Disk_lasting_failures : (("lasting" : Str) == ("failures" : Str)) = false := by decide +kernel
theorem se_Disk_lasting_writes : (("lasting" : Str) == ("writes" : Str)) = false := by decide +kernel
theorem se_Disk_lasting_syncs : (("lasting" : Str) == ("syncs" : Str)) = false := by decide +kernel
theorem se_Disk_seen_in_use : (("seen" : Str) == ("in_use" : Str)) = false := by decide +kernel
theorem se_Disk_seen_lasting : (("seen" : Str) == ("lasting" : Str)) = false := by decide +kernel
theorem se_Disk_seen_waiting : (("seen" : Str) == ("waiting" : Str)) = false := by decide +kernel
theorem se_Disk_seen_powered : (("seen" : Str) == ("powered" : Str)) = false := by decide +kernel
theorem se_Disk_seen_left : (("seen" : Str) == ("left" : Str)) = false := by decide +kernel
theorem se_Disk_seen_failures : (("seen" : Str) == ("failures" : Str)) = false := by decide +kernel
theorem se_Disk_seen_writes : (("seen" : Str) == ("writes" : Str)) = false := by decide +kernel
theorem se_Disk_seen_syncs : (("seen" : Str) == ("syncs" : Str)) = false := by decide +kernel
theorem se_Disk_waiting_in_use : (("waiting" : Str) == ("in_use" : Str)) = false := by decide +kernel
theorem se_Disk_waiting_lasting : (("waiting" : Str) == ("lasting" : Str)) = false := by decide +kernel
theorem se_Disk_waiting_seen : (("waiting" : Str) == ("seen" : Str)) = false := by decide +kernel
theorem se_Disk_waiting_powered : (("waiting" : Str) == ("powered" : Str)) = false := by decide +kernel
theorem se_Disk_waiting_left : (("waiting" : Str) == ("left" : Str)) = false := by decide +kernel
theorem se_Disk_waiting_failures : (("waiting" : Str) == ("failures" : Str)) = false := by decide +kernel
theorem se_Disk_waiting_writes : (("waiting" : Str) == ("writes" : Str)) = false := by decide +kernel
theorem se_Disk_waiting_syncs : (("waiting" : Str) == ("syncs" : Str)) = false := by decide +kernel
theorem se_Disk_powered_in_use : (("powered" : Str) == ("in_use" : Str)) = false := by decide +kernel
theorem se_Disk_powered_lasting : (("powered" : Str) == ("lasting" : Str)) = false := by decide +kernel
theorem se_Disk_powered_seen : (("powered" : Str) == ("seen" : Str)) = false := by decide +kernel
theorem se_Disk_powered_waiting : (("powered" : Str) == ("waiting" : Str)) = false := by decide +kernel
theorem se_Disk_powered_left : (("powered" : Str) == ("left" : Str)) = false := by decide +kernel
theorem se_Disk_powered_failures : (("powered" : Str) == ("failures" : Str)) = false := by decide +kernel
theorem se_Disk_powered_writes : (("powered" : Str) == ("writes" : Str)) = false := by decide +kernel
theorem se_Disk_powered_syncs : (("powered" : Str) == ("syncs" : Str)) = false := by decide +kernel
theorem se_Disk_left_in_use : (("left" : Str) == ("in_use" : Str)) = false := by decide +kernel
theorem se_Disk_left_lasting : (("left" : Str) == ("lasting" : Str)) = false := by decide +kernel
theorem se_Disk_left_seen : (("left" : Str) == ("seen" : Str)) = false := by decide +kernel
theorem se_Disk_left_waiting : (("left" : Str) == ("waiting" : Str)) = false := by decide +kernel
theorem se_Disk_left_powered : (("left" : Str) == ("powered" : Str)) = false := by decide +kernel
theorem se_Disk_left_failures : (("left" : Str) == ("failures" : Str)) = false := by decide +kernel
theorem se_Disk_left_writes : (("left" : Str) == ("writes" : Str)) = false := by decide +kernel
theorem se_Disk_left_syncs : (("left" : Str) == ("syncs" : Str)) = false := by decide +kernel
theorem se_Disk_failures_in_use : (("failures" : Str) == ("in_use" : Str)) = false := by decide +kernel
theorem se_Disk_failures_lasting : (("failures" : Str) == ("lasting" : Str)) = false := by decide +kernel
theorem se_Disk_failures_seen : (("failures" : Str) == ("seen" : Str)) = false := by decide +kernel
theorem se_Disk_failures_waiting : (("failures" : Str) == ("waiting" : Str)) = false := by decide +kernel
theorem se_Disk_failures_powered : (("failures" : Str) == ("powered" : Str)) = false := by decide +kernel
theorem se_Disk_failures_left : (("failures" : Str) == ("left" : Str)) = false := by decide +kernel
theorem se_Disk_failures_writes : (("failures" : Str) == ("writes" : Str)) = false := by decide +kernel
theorem se_Disk_failures_syncs : (("failures" : Str) == ("syncs" : Str)) = false := by decide +kernel
theorem se_Disk_writes_in_use : (("writes" : Str) == ("in_use" : Str)) = false := by decide +kernel
theorem se_Disk_writes_lasting : (("writes" : Str) == ("lasting" : Str)) = false := by decide +kernel
theorem se_Disk_writes_seen : (("writes" : Str) == ("seen" : Str)) = false := by decide +kernel
theorem se_Disk_writes_waiting : (("writes" : Str) == ("waiting" : Str)) = false := by decide +kernel
theorem se_Disk_writes_powered : (("writes" : Str) == ("powered" : Str)) = false := by decide +kernel
theorem se_Disk_writes_left : (("writes" : Str) == ("left" : Str)) = false := by decide +kernel
theorem se_Disk_writes_failures : (("writes" : Str) == ("failures" : Str)) = false := by decide +kernel
theorem se_Disk_writes_syncs : (("writes" : Str) == ("syncs" : Str)) = false := by decide +kernel
theorem se_Disk_syncs_in_use : (("syncs" : Str) == ("in_use" : Str)) = false := by decide +kernel
theorem se_Disk_syncs_lasting : (("syncs" : Str) == ("lasting" : Str)) = false := by decide +kernel
theorem se_Disk_syncs_seen : (("syncs" : Str) == ("seen" : Str)) = false := by decide +kernel
theorem se_Disk_syncs_waiting : (("syncs" : Str) == ("waiting" : Str)) = false := by decide +kernel
theorem se_Disk_syncs_powered : (("syncs" : Str) == ("powered" : Str)) = false := by decide +kernel
theorem se_Disk_syncs_left : (("syncs" : Str) == ("left" : Str)) = false := by decide +kernel
theorem se_Disk_syncs_failures : (("syncs" : Str) == ("failures" : Str)) = false := by decide +kernel
theorem se_Disk_syncs_writes : (("syncs" : Str) == ("writes" : Str)) = false := by decide +kernel
theorem se_Disk_in_use : (("in_use" : Str) == ("in_use" : Str)) = true := by decide +kernel
theorem se_Disk_lasting : (("lasting" : Str) == ("lasting" : Str)) = true := by decide +kernel
theorem se_Disk_seen : (("seen" : Str) == ("seen" : Str)) = true := by decide +kernel
theorem se_Disk_waiting : (("waiting" : Str) == ("waiting" : Str)) = true := by decide +kernel
theorem se_Disk_powered : (("powered" : Str) == ("powered" : Str)) = true := by decide +kernel
theorem se_Disk_left : (("left" : Str) == ("left" : Str)) = true := by decide +kernel
theorem se_Disk_failures : (("failures" : Str) == ("failures" : Str)) = true := by decide +kernel
theorem se_Disk_writes : (("writes" : Str) == ("writes" : Str)) = true := by decide +kernel
theorem se_Disk_syncs : (("syncs" : Str) == ("syncs" : Str)) = true := by decide +kernel
theorem ok_Disk_in_use : FldOk F_Disk.fl "in_use" F_Disk.f_in_use F_Disk.put_in_use where
  get D := by simp only [F_Disk.fl, List.lookup,  se_Disk_in_use]
  put v D := by simp only [F_Disk.fl, F_Disk.put_in_use, putF,  if_true, if_false]
  few D := by show 9 < 1000; decide
theorem ok_Disk_lasting : FldOk F_Disk.fl "lasting" F_Disk.f_lasting F_Disk.put_lasting where
  get D := by simp only [F_Disk.fl, List.lookup, se_Disk_lasting_in_use, se_Disk_lasting]
  put v D := by simp only [F_Disk.fl, F_Disk.put_lasting, putF, sn_Disk_in_use_lasting, if_true, if_false]
  few D := by show 9 < 1000; decide
theorem ok_Disk_seen : FldOk F_Disk.fl "seen" F_Disk.f_seen F_Disk.put_seen where
  get D := by simp only [F_Disk.fl, List.lookup, se_Disk_seen_in_use, se_Disk_seen_lasting, se_Disk_seen]
  put v D := by simp only [F_Disk.fl, F_Disk.put_seen, putF, sn_Disk_in_use_seen, sn_Disk_lasting_seen, if_true, if_false]
  few D := by show 9 < 1000; decide
theorem ok_Disk_waiting : FldOk F_Disk.fl "waiting" F_Disk.f_waiting F_Disk.put_waiting where
  get D := by simp only [F_Disk.fl, List.lookup, se_Disk_waiting_in_use, se_Disk_waiting_lasting, se_Disk_waiting_seen, se_Disk_waiting]
  put v D := by simp only [F_Disk.fl, F_Disk.put_waiting, putF, sn_Disk_in_use_waiting, sn_Disk_lasting_waiting, sn_Disk_seen_waiting, if_true, if_false]
  few D := by show 9 < 1000; decide
theorem ok_Disk_powered : FldOk F_Disk.fl "powered" F_Disk.f_powered F_Disk.put_powered where
  get D := by simp only [F_Disk.fl, List.lookup, se_Disk_powered_in_use, se_Disk_powered_lasting, se_Disk_powered_seen, se_Disk_powered_waiting, se_Disk_powered]
  put v D := by simp only [F_Disk.fl, F_Disk.put_powered, putF, sn_Disk_in_use_powered, sn_Disk_lasting_powered, sn_Disk_seen_powered, sn_Disk_waiting_powered, if_true, if_false]
  few D := by show 9 < 1000; decide
theorem ok_Disk_left : FldOk F_Disk.fl "left" F_Disk.f_left F_Disk.put_left where
  get D := by simp only [F_Disk.fl, List.lookup, se_Disk_left_in_use, se_Disk_left_lasting, se_Disk_left_seen, se_Disk_left_waiting, se_Disk_left_powered, se_Disk_left]
  put v D := by simp only [F_Disk.fl, F_Disk.put_left, putF, sn_Disk_in_use_left, sn_Disk_lasting_left, sn_Disk_seen_left, sn_Disk_waiting_left, sn_Disk_powered_left, if_true, if_false]
  few D := by show 9 < 1000; decide
theorem ok_Disk_failures : FldOk F_Disk.fl "failures" F_Disk.f_failures F_Disk.put_failures where
  get D := by simp only [F_Disk.fl, List.lookup, se_Disk_failures_in_use, se_Disk_failures_lasting, se_Disk_failures_seen, se_Disk_failures_waiting, se_Disk_failures_powered, se_Disk_failures_left, se_Disk_failures]
  put v D := by simp only [F_Disk.fl, F_Disk.put_failures, putF, sn_Disk_in_use_failures, sn_Disk_lasting_failures, sn_Disk_seen_failures, sn_Disk_waiting_failures, sn_Disk_powered_failures, sn_Disk_left_failures, if_true, if_false]
  few D := by show 9 < 1000; decide
theorem ok_Disk_writes : FldOk F_Disk.fl "writes" F_Disk.f_writes F_Disk.put_writes where
  get D := by simp only [F_Disk.fl, List.lookup, se_Disk_writes_in_use, se_Disk_writes_lasting, se_Disk_writes_seen, se_Disk_writes_waiting, se_Disk_writes_powered, se_Disk_writes_left, se_Disk_writes_failures, se_Disk_writes]
  put v D := by simp only [F_Disk.fl, F_Disk.put_writes, putF, sn_Disk_in_use_writes, sn_Disk_lasting_writes, sn_Disk_seen_writes, sn_Disk_waiting_writes, sn_Disk_powered_writes, sn_Disk_left_writes, sn_Disk_failures_writes, if_true, if_false]
  few D := by show 9 < 1000; decide
theorem ok_Disk_syncs : FldOk F_Disk.fl "syncs" F_Disk.f_syncs F_Disk.put_syncs where
  get D := by simp only [F_Disk.fl, List.lookup, se_Disk_syncs_in_use, se_Disk_syncs_lasting, se_Disk_syncs_seen, se_Disk_syncs_waiting, se_Disk_syncs_powered, se_Disk_syncs_left, se_Disk_syncs_failures, se_Disk_syncs_writes, se_Disk_syncs]
  put v D := by simp only [F_Disk.fl, F_Disk.put_syncs, putF, sn_Disk_in_use_syncs, sn_Disk_lasting_syncs, sn_Disk_seen_syncs, sn_Disk_waiting_syncs, sn_Disk_powered_syncs, sn_Disk_left_syncs, sn_Disk_failures_syncs, sn_Disk_writes_syncs, if_true, if_false]
  few D := by show 9 < 1000; decide
theorem in_Disk (v0 v1 v2 v3 v4 v5 v6 v7 v8 : V) : (putF "syncs" v8 (putF "writes" v7 (putF "failures" v6 (putF "left" v5 (putF "powered" v4 (putF "waiting" v3 (putF "seen" v2 (putF "lasting" v1 (putF "in_use" v0 []))))))))) = F_Disk.fl ⟨v0, v1, v2, v3, v4, v5, v6, v7, v8⟩ := by simp only [F_Disk.fl, putF, sn_Disk_in_use_lasting, sn_Disk_in_use_seen, sn_Disk_in_use_waiting, sn_Disk_in_use_powered, sn_Disk_in_use_left, sn_Disk_in_use_failures, sn_Disk_in_use_writes, sn_Disk_in_use_syncs, sn_Disk_lasting_seen, sn_Disk_lasting_waiting, sn_Disk_lasting_powered, sn_Disk_lasting_left, sn_Disk_lasting_failures, sn_Disk_lasting_writes, sn_Disk_lasting_syncs, sn_Disk_seen_waiting, sn_Disk_seen_powered, sn_Disk_seen_left, sn_Disk_seen_failures, sn_Disk_seen_writes, sn_Disk_seen_syncs, sn_Disk_waiting_powered, sn_Disk_waiting_left, sn_Disk_waiting_failures, sn_Disk_waiting_writes, sn_Disk_waiting_syncs, sn_Disk_powered_left, sn_Disk_powered_failures, sn_Disk_powered_writes, sn_Disk_powered_syncs, sn_Disk_left_failures, sn_Disk_left_writes, sn_Disk_left_syncs, sn_Disk_failures_writes, sn_Disk_failures_syncs, sn_Disk_writes_syncs, if_false]
theorem sm_Disk_size_in_use : (("size" : Str) == ("in_use" : Str)) = false := by decide +kernel
theorem sm_Disk_size_lasting : (("size" : Str) == ("lasting" : Str)) = false := by decide +kernel
theorem sm_Disk_size_seen : (("size" : Str) == ("seen" : Str)) = false := by decide +kernel
theorem sm_Disk_size_waiting : (("size" : Str) == ("waiting" : Str)) = false := by decide +kernel
theorem sm_Disk_size_powered : (("size" : Str) == ("powered" : Str)) = false := by decide +kernel
theorem sm_Disk_size_left : (("size" : Str) == ("left" : Str)) = false := by decide +kernel
theorem sm_Disk_size_failures : (("size" : Str) == ("failures" : Str)) = false := by decide +kernel
theorem sm_Disk_size_writes : (("size" : Str) == ("writes" : Str)) = false := by decide +kernel
theorem sm_Disk_size_syncs : (("size" : Str) == ("syncs" : Str)) = false := by decide +kernel
theorem nm_Disk_size (D : F_Disk) : (F_Disk.fl D).lookup ("size" : Str) = none := by simp only [F_Disk.fl, List.lookup, sm_Disk_size_in_use, sm_Disk_size_lasting, sm_Disk_size_seen, sm_Disk_size_waiting, sm_Disk_size_powered, sm_Disk_size_left, sm_Disk_size_failures, sm_Disk_size_writes, sm_Disk_size_syncs]
theorem sm_Disk_read_in_use : (("read" : Str) == ("in_use" : Str)) = false := by decide +kernel
theorem sm_Disk_read_lasting : (("read" : Str) == ("lasting" : Str)) = false := by decide +kernel
theorem sm_Disk_read_seen : (("read" : Str) == ("seen" : Str)) = false := by decide +kernel
theorem sm_Disk_read_waiting : (("read" : Str) == ("waiting" : Str)) = false := by decide +kernel
theorem sm_Disk_read_powered : (("read" : Str) == ("powered" : Str)) = false := by decide +kernel
theorem sm_Disk_read_left : (("read" : Str) == ("left" : Str)) = false := by decide +kernel
theorem sm_Disk_read_failures : (("read" : Str) == ("failures" : Str)) = false := by decide +kernel
theorem sm_Disk_read_writes : (("read" : Str) == ("writes" : Str)) = false := by decide +kernel
theorem sm_Disk_read_syncs : (("read" : Str) == ("syncs" : Str)) = false := by decide +kernel
theorem nm_Disk_read (D : F_Disk) : (F_Disk.fl D).lookup ("read" : Str) = none := by simp only [F_Disk.fl, List.lookup, sm_Disk_read_in_use, sm_Disk_read_lasting, sm_Disk_read_seen, sm_Disk_read_waiting, sm_Disk_read_powered, sm_Disk_read_left, sm_Disk_read_failures, sm_Disk_read_writes, sm_Disk_read_syncs]
theorem sm_Disk_pending_in_use : (("pending" : Str) == ("in_use" : Str)) = false := by decide +kernel
theorem sm_Disk_pending_lasting : (("pending" : Str) == ("lasting" : Str)) = false := by decide +kernel
theorem sm_Disk_pending_seen : (("pending" : Str) == ("seen" : Str)) = false := by decide +kernel
theorem sm_Disk_pending_waiting : (("pending" : Str) == ("waiting" : Str)) = false := by decide +kernel
theorem sm_Disk_pending_powered : (("pending" : Str) == ("powered" : Str)) = false := by decide +kernel
theorem sm_Disk_pending_left : (("pending" : Str) == ("left" : Str)) = false := by decide +kernel
theorem sm_Disk_pending_failures : (("pending" : Str) == ("failures" : Str)) = false := by decide +kernel
theorem sm_Disk_pending_writes : (("pending" : Str) == ("writes" : Str)) = false := by decide +kernel
theorem sm_Disk_pending_syncs : (("pending" : Str) == ("syncs" : Str)) = false := by decide +kernel
theorem nm_Disk_pending (D : F_Disk) : (F_Disk.fl D).lookup ("pending" : Str) = none := by simp only [F_Disk.fl, List.lookup, sm_Disk_pending_in_use, sm_Disk_pending_lasting, sm_Disk_pending_seen, sm_Disk_pending_waiting, sm_Disk_pending_powered, sm_Disk_pending_left, sm_Disk_pending_failures, sm_Disk_pending_writes, sm_Disk_pending_syncs]
theorem sm_Disk_counts_in_use : (("counts" : Str) == ("in_use" : Str)) = false := by decide +kernel
theorem sm_Disk_counts_lasting : (("counts" : Str) == ("lasting" : Str)) = false := by decide +kernel
theorem sm_Disk_counts_seen : (("counts" : Str) == ("seen" : Str)) = false := by decide +kernel
theorem sm_Disk_counts_waiting : (("counts" : Str) == ("waiting" : Str)) = false := by decide +kernel
theorem sm_Disk_counts_powered : (("counts" : Str) == ("powered" : Str)) = false := by decide +kernel
theorem sm_Disk_counts_left : (("counts" : Str) == ("left" : Str)) = false := by decide +kernel
theorem sm_Disk_counts_failures : (("counts" : Str) == ("failures" : Str)) = false := by decide +kernel
theorem sm_Disk_counts_writes : (("counts" : Str) == ("writes" : Str)) = false := by decide +kernel
theorem sm_Disk_counts_syncs : (("counts" : Str) == ("syncs" : Str)) = false := by decide +kernel
theorem nm_Disk_counts (D : F_Disk) : (F_Disk.fl D).lookup ("counts" : Str) = none := by simp only [F_Disk.fl, List.lookup, sm_Disk_counts_in_use, sm_Disk_counts_lasting, sm_Disk_counts_seen, sm_Disk_counts_waiting, sm_Disk_counts_powered, sm_Disk_counts_left, sm_Disk_counts_failures, sm_Disk_counts_writes, sm_Disk_counts_syncs]
theorem sm_Disk_lose_power_in_use : (("lose_power" : Str) == ("in_use" : Str)) = false := by decide +kernel
theorem sm_Disk_lose_power_lasting : (("lose_power" : Str) == ("lasting" : Str)) = false := by decide +kernel
theorem sm_Disk_lose_power_seen : (("lose_power" : Str) == ("seen" : Str)) = false := by decide +kernel
theorem sm_Disk_lose_power_waiting : (("lose_power" : Str) == ("waiting" : Str)) = false := by decide +kernel
theorem sm_Disk_lose_power_powered : (("lose_power" : Str) == ("powered" : Str)) = false := by decide +kernel
theorem sm_Disk_lose_power_left : (("lose_power" : Str) == ("left" : Str)) = false := by decide +kernel
theorem sm_Disk_lose_power_failures : (("lose_power" : Str) == ("failures" : Str)) = false := by decide +kernel
theorem sm_Disk_lose_power_writes : (("lose_power" : Str) == ("writes" : Str)) = false := by decide +kernel
theorem sm_Disk_lose_power_syncs : (("lose_power" : Str) == ("syncs" : Str)) = false := by decide +kernel
theorem nm_Disk_lose_power (D : F_Disk) : (F_Disk.fl D).lookup ("lose_power" : Str) = none := by simp only [F_Disk.fl, List.lookup, sm_Disk_lose_power_in_use, sm_Disk_lose_power_lasting, sm_Disk_lose_power_seen, sm_Disk_lose_power_waiting, sm_Disk_lose_power_powered, sm_Disk_lose_power_left, sm_Disk_lose_power_failures, sm_Disk_lose_power_writes, sm_Disk_lose_power_syncs]
theorem sm_Disk_operate_in_use : (("operate" : Str) == ("in_use" : Str)) = false := by decide +kernel
theorem sm_Disk_operate_lasting : (("operate" : Str) == ("lasting" : Str)) = false := by decide +kernel
theorem sm_Disk_operate_seen : (("operate" : Str) == ("seen" : Str)) = false := by decide +kernel
theorem sm_Disk_operate_waiting : (("operate" : Str) == ("waiting" : Str)) = false := by decide +kernel
theorem sm_Disk_operate_powered : (("operate" : Str) == ("powered" : Str)) = false := by decide +kernel
theorem sm_Disk_operate_left : (("operate" : Str) == ("left" : Str)) = false := by decide +kernel
theorem sm_Disk_operate_failures : (("operate" : Str) == ("failures" : Str)) = false := by decide +kernel
theorem sm_Disk_operate_writes : (("operate" : Str) == ("writes" : Str)) = false := by decide +kernel
theorem sm_Disk_operate_syncs : (("operate" : Str) == ("syncs" : Str)) = false := by decide +kernel
theorem nm_Disk_operate (D : F_Disk) : (F_Disk.fl D).lookup ("operate" : Str) = none := by simp only [F_Disk.fl, List.lookup, sm_Disk_operate_in_use, sm_Disk_operate_lasting, sm_Disk_operate_seen, sm_Disk_operate_waiting, sm_Disk_operate_powered, sm_Disk_operate_left, sm_Disk_operate_failures, sm_Disk_operate_writes, sm_Disk_operate_syncs]
theorem sm_Disk_write_in_use : (("write" : Str) == ("in_use" : Str)) = false := by decide +kernel
theorem sm_Disk_write_lasting : (("write" : Str) == ("lasting" : Str)) = false := by decide +kernel
theorem sm_Disk_write_seen : (("write" : Str) == ("seen" : Str)) = false := by decide +kernel
theorem sm_Disk_write_waiting : (("write" : Str) == ("waiting" : Str)) = false := by decide +kernel
theorem sm_Disk_write_powered : (("write" : Str) == ("powered" : Str)) = false := by decide +kernel
theorem sm_Disk_write_left : (("write" : Str) == ("left" : Str)) = false := by decide +kernel
theorem sm_Disk_write_failures : (("write" : Str) == ("failures" : Str)) = false := by decide +kernel
theorem sm_Disk_write_writes : (("write" : Str) == ("writes" : Str)) = false := by decide +kernel
theorem sm_Disk_write_syncs : (("write" : Str) == ("syncs" : Str)) = false := by decide +kernel
theorem nm_Disk_write (D : F_Disk) : (F_Disk.fl D).lookup ("write" : Str) = none := by simp only [F_Disk.fl, List.lookup, sm_Disk_write_in_use, sm_Disk_write_lasting, sm_Disk_write_seen, sm_Disk_write_waiting, sm_Disk_write_powered, sm_Disk_write_left, sm_Disk_write_failures, sm_Disk_write_writes, sm_Disk_write_syncs]
theorem sm_Disk_sync_in_use : (("sync" : Str) == ("in_use" : Str)) = false := by decide +kernel
theorem sm_Disk_sync_lasting : (("sync" : Str) == ("lasting" : Str)) = false := by decide +kernel
theorem sm_Disk_sync_seen : (("sync" : Str) == ("seen" : Str)) = false := by decide +kernel
theorem sm_Disk_sync_waiting : (("sync" : Str) == ("waiting" : Str)) = false := by decide +kernel
theorem sm_Disk_sync_powered : (("sync" : Str) == ("powered" : Str)) = false := by decide +kernel
theorem sm_Disk_sync_left : (("sync" : Str) == ("left" : Str)) = false := by decide +kernel
theorem sm_Disk_sync_failures : (("sync" : Str) == ("failures" : Str)) = false := by decide +kernel
theorem sm_Disk_sync_writes : (("sync" : Str) == ("writes" : Str)) = false := by decide +kernel
theorem sm_Disk_sync_syncs : (("sync" : Str) == ("syncs" : Str)) = false := by decide +kernel
theorem nm_Disk_sync (D : F_Disk) : (F_Disk.fl D).lookup ("sync" : Str) = none := by simp only [F_Disk.fl, List.lookup, sm_Disk_sync_in_use, sm_Disk_sync_lasting, sm_Disk_sync_seen, sm_Disk_sync_waiting, sm_Disk_sync_powered, sm_Disk_sync_left, sm_Disk_sync_failures, sm_Disk_sync_writes, sm_Disk_sync_syncs]
theorem sm_Disk_fail_after_in_use : (("fail_after" : Str) == ("in_use" : Str)) = false := by decide +kernel
theorem sm_Disk_fail_after_lasting : (("fail_after" : Str) == ("lasting" : Str)) = false := by decide +kernel
theorem sm_Disk_fail_after_seen : (("fail_after" : Str) == ("seen" : Str)) = false := by decide +kernel
theorem sm_Disk_fail_after_waiting : (("fail_after" : Str) == ("waiting" : Str)) = false := by decide +kernel
theorem sm_Disk_fail_after_powered : (("fail_after" : Str) == ("powered" : Str)) = false := by decide +kernel
theorem sm_Disk_fail_after_left : (("fail_after" : Str) == ("left" : Str)) = false := by decide +kernel
theorem sm_Disk_fail_after_failures : (("fail_after" : Str) == ("failures" : Str)) = false := by decide +kernel
theorem sm_Disk_fail_after_writes : (("fail_after" : Str) == ("writes" : Str)) = false := by decide +kernel
theorem sm_Disk_fail_after_syncs : (("fail_after" : Str) == ("syncs" : Str)) = false := by decide +kernel
theorem nm_Disk_fail_after (D : F_Disk) : (F_Disk.fl D).lookup ("fail_after" : Str) = none := by simp only [F_Disk.fl, List.lookup, sm_Disk_fail_after_in_use, sm_Disk_fail_after_lasting, sm_Disk_fail_after_seen, sm_Disk_fail_after_waiting, sm_Disk_fail_after_powered, sm_Disk_fail_after_left, sm_Disk_fail_after_failures, sm_Disk_fail_after_writes, sm_Disk_fail_after_syncs]
theorem sm_Disk_power_in_use : (("power" : Str) == ("in_use" : Str)) = false := by decide +kernel
theorem sm_Disk_power_lasting : (("power" : Str) == ("lasting" : Str)) = false := by decide +kernel
theorem sm_Disk_power_seen : (("power" : Str) == ("seen" : Str)) = false := by decide +kernel
theorem sm_Disk_power_waiting : (("power" : Str) == ("waiting" : Str)) = false := by decide +kernel
theorem sm_Disk_power_powered : (("power" : Str) == ("powered" : Str)) = false := by decide +kernel
theorem sm_Disk_power_left : (("power" : Str) == ("left" : Str)) = false := by decide +kernel
theorem sm_Disk_power_failures : (("power" : Str) == ("failures" : Str)) = false := by decide +kernel
theorem sm_Disk_power_writes : (("power" : Str) == ("writes" : Str)) = false := by decide +kernel
theorem sm_Disk_power_syncs : (("power" : Str) == ("syncs" : Str)) = false := by decide +kernel
theorem nm_Disk_power (D : F_Disk) : (F_Disk.fl D).lookup ("power" : Str) = none := by simp only [F_Disk.fl, List.lookup, sm_Disk_power_in_use, sm_Disk_power_lasting, sm_Disk_power_seen, sm_Disk_power_waiting, sm_Disk_power_powered, sm_Disk_power_left, sm_Disk_power_failures, sm_Disk_power_writes, sm_Disk_power_syncs]
theorem sm_Disk_is_on_in_use : (("is_on" : Str) == ("in_use" : Str)) = false := by decide +kernel
theorem sm_Disk_is_on_lasting : (("is_on" : Str) == ("lasting" : Str)) = false := by decide +kernel
theorem sm_Disk_is_on_seen : (("is_on" : Str) == ("seen" : Str)) = false := by decide +kernel
theorem sm_Disk_is_on_waiting : (("is_on" : Str) == ("waiting" : Str)) = false := by decide +kernel
theorem sm_Disk_is_on_powered : (("is_on" : Str) == ("powered" : Str)) = false := by decide +kernel
theorem sm_Disk_is_on_left : (("is_on" : Str) == ("left" : Str)) = false := by decide +kernel
theorem sm_Disk_is_on_failures : (("is_on" : Str) == ("failures" : Str)) = false := by decide +kernel
theorem sm_Disk_is_on_writes : (("is_on" : Str) == ("writes" : Str)) = false := by decide +kernel
theorem sm_Disk_is_on_syncs : (("is_on" : Str) == ("syncs" : Str)) = false := by decide +kernel
theorem nm_Disk_is_on (D : F_Disk) : (F_Disk.fl D).lookup ("is_on" : Str) = none := by simp only [F_Disk.fl, List.lookup, sm_Disk_is_on_in_use, sm_Disk_is_on_lasting, sm_Disk_is_on_seen, sm_Disk_is_on_waiting, sm_Disk_is_on_powered, sm_Disk_is_on_left, sm_Disk_is_on_failures, sm_Disk_is_on_writes, sm_Disk_is_on_syncs]
theorem sm_Disk_losses_in_use : (("losses" : Str) == ("in_use" : Str)) = false := by decide +kernel
theorem sm_Disk_losses_lasting : (("losses" : Str) == ("lasting" : Str)) = false := by decide +kernel
theorem sm_Disk_losses_seen : (("losses" : Str) == ("seen" : Str)) = false := by decide +kernel
theorem sm_Disk_losses_waiting : (("losses" : Str) == ("waiting" : Str)) = false := by decide +kernel
theorem sm_Disk_losses_powered : (("losses" : Str) == ("powered" : Str)) = false := by decide +kernel
theorem sm_Disk_losses_left : (("losses" : Str) == ("left" : Str)) = false := by decide +kernel
theorem sm_Disk_losses_failures : (("losses" : Str) == ("failures" : Str)) = false := by decide +kernel
theorem sm_Disk_losses_writes : (("losses" : Str) == ("writes" : Str)) = false := by decide +kernel
theorem sm_Disk_losses_syncs : (("losses" : Str) == ("syncs" : Str)) = false := by decide +kernel
theorem nm_Disk_losses (D : F_Disk) : (F_Disk.fl D).lookup ("losses" : Str) = none := by simp only [F_Disk.fl, List.lookup, sm_Disk_losses_in_use, sm_Disk_losses_lasting, sm_Disk_losses_seen, sm_Disk_losses_waiting, sm_Disk_losses_powered, sm_Disk_losses_left, sm_Disk_losses_failures, sm_Disk_losses_writes, sm_Disk_losses_syncs]
structure W_World where
  mk ::
  f_size : V
  f_lasting : V
  f_waiting : V
  f_on : V
  f_left : V
  f_losses : V
  f_counts : V
def W_World.kv (D : W_World) : List (Key × V) := [(Sum.inr "size", D.f_size), (Sum.inr "lasting", D.f_lasting), (Sum.inr "waiting", D.f_waiting), (Sum.inr "on", D.f_on), (Sum.inr "left", D.f_left), (Sum.inr "losses", D.f_losses), (Sum.inr "counts", D.f_counts)]
@[reducible] def W_World.put_size (v : V) (D : W_World) : W_World := ⟨v, D.f_lasting, D.f_waiting, D.f_on, D.f_left, D.f_losses, D.f_counts⟩
@[reducible] def W_World.put_lasting (v : V) (D : W_World) : W_World := ⟨D.f_size, v, D.f_waiting, D.f_on, D.f_left, D.f_losses, D.f_counts⟩
@[reducible] def W_World.put_waiting (v : V) (D : W_World) : W_World := ⟨D.f_size, D.f_lasting, v, D.f_on, D.f_left, D.f_losses, D.f_counts⟩
@[reducible] def W_World.put_on (v : V) (D : W_World) : W_World := ⟨D.f_size, D.f_lasting, D.f_waiting, v, D.f_left, D.f_losses, D.f_counts⟩
@[reducible] def W_World.put_left (v : V) (D : W_World) : W_World := ⟨D.f_size, D.f_lasting, D.f_waiting, D.f_on, v, D.f_losses, D.f_counts⟩
@[reducible] def W_World.put_losses (v : V) (D : W_World) : W_World := ⟨D.f_size, D.f_lasting, D.f_waiting, D.f_on, D.f_left, v, D.f_counts⟩
@[reducible] def W_World.put_counts (v : V) (D : W_World) : W_World := ⟨D.f_size, D.f_lasting, D.f_waiting, D.f_on, D.f_left, D.f_losses, v⟩
theorem kn_World_size_lasting : ¬ ((Sum.inr ("size" : Str) : Key) = Sum.inr ("lasting" : Str)) := by decide +kernel
theorem kn_World_size_waiting : ¬ ((Sum.inr ("size" : Str) : Key) = Sum.inr ("waiting" : Str)) := by decide +kernel
theorem kn_World_size_on : ¬ ((Sum.inr ("size" : Str) : Key) = Sum.inr ("on" : Str)) := by decide +kernel
theorem kn_World_size_left : ¬ ((Sum.inr ("size" : Str) : Key) = Sum.inr ("left" : Str)) := by decide +kernel
theorem kn_World_size_losses : ¬ ((Sum.inr ("size" : Str) : Key) = Sum.inr ("losses" : Str)) := by decide +kernel
theorem kn_World_size_counts : ¬ ((Sum.inr ("size" : Str) : Key) = Sum.inr ("counts" : Str)) := by decide +kernel
theorem kn_World_lasting_size : ¬ ((Sum.inr ("lasting" : Str) : Key) = Sum.inr ("size" : Str)) := by decide +kernel
theorem kn_World_lasting_waiting : ¬ ((Sum.inr ("lasting" : Str) : Key) = Sum.inr ("waiting" : Str)) := by decide +kernel
theorem kn_World_lasting_on : ¬ ((Sum.inr ("lasting" : Str) : Key) = Sum.inr ("on" : Str)) := by decide +kernel
theorem kn_World_lasting_left : ¬ ((Sum.inr ("lasting" : Str) : Key) = Sum.inr ("left" : Str)) := by decide +kernel
theorem kn_World_lasting_losses : ¬ ((Sum.inr ("lasting" : Str) : Key) = Sum.inr ("losses" : Str)) := by decide +kernel
theorem kn_World_lasting_counts : ¬ ((Sum.inr ("lasting" : Str) : Key) = Sum.inr ("counts" : Str)) := by decide +kernel
theorem kn_World_waiting_size : ¬ ((Sum.inr ("waiting" : Str) : Key) = Sum.inr ("size" : Str)) := by decide +kernel
theorem kn_World_waiting_lasting : ¬ ((Sum.inr ("waiting" : Str) : Key) = Sum.inr ("lasting" : Str)) := by decide +kernel
theorem kn_World_waiting_on : ¬ ((Sum.inr ("waiting" : Str) : Key) = Sum.inr ("on" : Str)) := by decide +kernel
theorem kn_World_waiting_left : ¬ ((Sum.inr ("waiting" : Str) : Key) = Sum.inr ("left" : Str)) := by decide +kernel
theorem kn_World_waiting_losses : ¬ ((Sum.inr ("waiting" : Str) : Key) = Sum.inr ("losses" : Str)) := by decide +kernel
theorem kn_World_waiting_counts : ¬ ((Sum.inr ("waiting" : Str) : Key) = Sum.inr ("counts" : Str)) := by decide +kernel
theorem kn_World_on_size : ¬ ((Sum.inr ("on" : Str) : Key) = Sum.inr ("size" : Str)) := by decide +kernel
theorem kn_World_on_lasting : ¬ ((Sum.inr ("on" : Str) : Key) = Sum.inr ("lasting" : Str)) := by decide +kernel
theorem kn_World_on_waiting : ¬ ((Sum.inr ("on" : Str) : Key) = Sum.inr ("waiting" : Str)) := by decide +kernel
theorem kn_World_on_left : ¬ ((Sum.inr ("on" : Str) : Key) = Sum.inr ("left" : Str)) := by decide +kernel
theorem kn_World_on_losses : ¬ ((Sum.inr ("on" : Str) : Key) = Sum.inr ("losses" : Str)) := by decide +kernel
theorem kn_World_on_counts : ¬ ((Sum.inr ("on" : Str) : Key) = Sum.inr ("counts" : Str)) := by decide +kernel
theorem kn_World_left_size : ¬ ((Sum.inr ("left" : Str) : Key) = Sum.inr ("size" : Str)) := by decide +kernel
theorem kn_World_left_lasting : ¬ ((Sum.inr ("left" : Str) : Key) = Sum.inr ("lasting" : Str)) := by decide +kernel
theorem kn_World_left_waiting : ¬ ((Sum.inr ("left" : Str) : Key) = Sum.inr ("waiting" : Str)) := by decide +kernel
theorem kn_World_left_on : ¬ ((Sum.inr ("left" : Str) : Key) = Sum.inr ("on" : Str)) := by decide +kernel
theorem kn_World_left_losses : ¬ ((Sum.inr ("left" : Str) : Key) = Sum.inr ("losses" : Str)) := by decide +kernel
theorem kn_World_left_counts : ¬ ((Sum.inr ("left" : Str) : Key) = Sum.inr ("counts" : Str)) := by decide +kernel
theorem kn_World_losses_size : ¬ ((Sum.inr ("losses" : Str) : Key) = Sum.inr ("size" : Str)) := by decide +kernel
theorem kn_World_losses_lasting : ¬ ((Sum.inr ("losses" : Str) : Key) = Sum.inr ("lasting" : Str)) := by decide +kernel
theorem kn_World_losses_waiting : ¬ ((Sum.inr ("losses" : Str) : Key) = Sum.inr ("waiting" : Str)) := by decide +kernel
theorem kn_World_losses_on : ¬ ((Sum.inr ("losses" : Str) : Key) = Sum.inr ("on" : Str)) := by decide +kernel
theorem kn_World_losses_left : ¬ ((Sum.inr ("losses" : Str) : Key) = Sum.inr ("left" : Str)) := by decide +kernel
theorem kn_World_losses_counts : ¬ ((Sum.inr ("losses" : Str) : Key) = Sum.inr ("counts" : Str)) := by decide +kernel
theorem kn_World_counts_size : ¬ ((Sum.inr ("counts" : Str) : Key) = Sum.inr ("size" : Str)) := by decide +kernel
theorem kn_World_counts_lasting : ¬ ((Sum.inr ("counts" : Str) : Key) = Sum.inr ("lasting" : Str)) := by decide +kernel
theorem kn_World_counts_waiting : ¬ ((Sum.inr ("counts" : Str) : Key) = Sum.inr ("waiting" : Str)) := by decide +kernel
theorem kn_World_counts_on : ¬ ((Sum.inr ("counts" : Str) : Key) = Sum.inr ("on" : Str)) := by decide +kernel
theorem kn_World_counts_left : ¬ ((Sum.inr ("counts" : Str) : Key) = Sum.inr ("left" : Str)) := by decide +kernel
theorem kn_World_counts_losses : ¬ ((Sum.inr ("counts" : Str) : Key) = Sum.inr ("losses" : Str)) := by decide +kernel
theorem dv_World_size (D : W_World) : valV D.kv (Sum.inr ("size" : Str)) = some D.f_size := valV_h
theorem dp_World_size (D : W_World) (v : V) : putK D.kv (Sum.inr ("size" : Str)) v = (D.put_size v).kv := (putK_h ((valV_c kn_World_lasting_size).trans ((valV_c kn_World_waiting_size).trans ((valV_c kn_World_on_size).trans ((valV_c kn_World_left_size).trans ((valV_c kn_World_losses_size).trans ((valV_c kn_World_counts_size).trans valV_nil)))))))
theorem dv_World_lasting (D : W_World) : valV D.kv (Sum.inr ("lasting" : Str)) = some D.f_lasting := ((valV_c kn_World_size_lasting).trans valV_h)
theorem dp_World_lasting (D : W_World) (v : V) : putK D.kv (Sum.inr ("lasting" : Str)) v = (D.put_lasting v).kv := ((putK_c kn_World_size_lasting (by rw [(show valV _ _ = some D.f_lasting from valV_h)]; rfl)).trans (congrArg _ (putK_h ((valV_c kn_World_waiting_lasting).trans ((valV_c kn_World_on_lasting).trans ((valV_c kn_World_left_lasting).trans ((valV_c kn_World_losses_lasting).trans ((valV_c kn_World_counts_lasting).trans valV_nil))))))))
theorem dv_World_waiting (D : W_World) : valV D.kv (Sum.inr ("waiting" : Str)) = some D.f_waiting := ((valV_c kn_World_size_waiting).trans ((valV_c kn_World_lasting_waiting).trans valV_h))
theorem dp_World_waiting (D : W_World) (v : V) : putK D.kv (Sum.inr ("waiting" : Str)) v = (D.put_waiting v).kv := ((putK_c kn_World_size_waiting (by rw [(show valV _ _ = some D.f_waiting from ((valV_c kn_World_lasting_waiting).trans valV_h))]; rfl)).trans (congrArg _ ((putK_c kn_World_lasting_waiting (by rw [(show valV _ _ = some D.f_waiting from valV_h)]; rfl)).trans (congrArg _ (putK_h ((valV_c kn_World_on_waiting).trans ((valV_c kn_World_left_waiting).trans ((valV_c kn_World_losses_waiting).trans ((valV_c kn_World_counts_waiting).trans valV_nil)))))))))
theorem dv_World_on (D : W_World) : valV D.kv (Sum.inr ("on" : Str)) = some D.f_on := ((valV_c kn_World_size_on).trans ((valV_c kn_World_lasting_on).trans ((valV_c kn_World_waiting_on).trans valV_h)))
theorem dp_World_on (D : W_World) (v : V) : putK D.kv (Sum.inr ("on" : Str)) v = (D.put_on v).kv := ((putK_c kn_World_size_on (by rw [(show valV _ _ = some D.f_on from ((valV_c kn_World_lasting_on).trans ((valV_c kn_World_waiting_on).trans valV_h)))]; rfl)).trans (congrArg _ ((putK_c kn_World_lasting_on (by rw [(show valV _ _ = some D.f_on from ((valV_c kn_World_waiting_on).trans valV_h))]; rfl)).trans (congrArg _ ((putK_c kn_World_waiting_on (by rw [(show valV _ _ = some D.f_on from valV_h)]; rfl)).trans (congrArg _ (putK_h ((valV_c kn_World_left_on).trans ((valV_c kn_World_losses_on).trans ((valV_c kn_World_counts_on).trans valV_nil))))))))))
theorem dv_World_left (D : W_World) : valV D.kv (Sum.inr ("left" : Str)) = some D.f_left := ((valV_c kn_World_size_left).trans ((valV_c kn_World_lasting_left).trans ((valV_c kn_World_waiting_left).trans ((valV_c kn_World_on_left).trans valV_h))))
theorem dp_World_left (D : W_World) (v : V) : putK D.kv (Sum.inr ("left" : Str)) v = (D.put_left v).kv := ((putK_c kn_World_size_left (by rw [(show valV _ _ = some D.f_left from ((valV_c kn_World_lasting_left).trans ((valV_c kn_World_waiting_left).trans ((valV_c kn_World_on_left).trans valV_h))))]; rfl)).trans (congrArg _ ((putK_c kn_World_lasting_left (by rw [(show valV _ _ = some D.f_left from ((valV_c kn_World_waiting_left).trans ((valV_c kn_World_on_left).trans valV_h)))]; rfl)).trans (congrArg _ ((putK_c kn_World_waiting_left (by rw [(show valV _ _ = some D.f_left from ((valV_c kn_World_on_left).trans valV_h))]; rfl)).trans (congrArg _ ((putK_c kn_World_on_left (by rw [(show valV _ _ = some D.f_left from valV_h)]; rfl)).trans (congrArg _ (putK_h ((valV_c kn_World_losses_left).trans ((valV_c kn_World_counts_left).trans valV_nil)))))))))))
theorem dv_World_losses (D : W_World) : valV D.kv (Sum.inr ("losses" : Str)) = some D.f_losses := ((valV_c kn_World_size_losses).trans ((valV_c kn_World_lasting_losses).trans ((valV_c kn_World_waiting_losses).trans ((valV_c kn_World_on_losses).trans ((valV_c kn_World_left_losses).trans valV_h)))))
theorem dp_World_losses (D : W_World) (v : V) : putK D.kv (Sum.inr ("losses" : Str)) v = (D.put_losses v).kv := ((putK_c kn_World_size_losses (by rw [(show valV _ _ = some D.f_losses from ((valV_c kn_World_lasting_losses).trans ((valV_c kn_World_waiting_losses).trans ((valV_c kn_World_on_losses).trans ((valV_c kn_World_left_losses).trans valV_h)))))]; rfl)).trans (congrArg _ ((putK_c kn_World_lasting_losses (by rw [(show valV _ _ = some D.f_losses from ((valV_c kn_World_waiting_losses).trans ((valV_c kn_World_on_losses).trans ((valV_c kn_World_left_losses).trans valV_h))))]; rfl)).trans (congrArg _ ((putK_c kn_World_waiting_losses (by rw [(show valV _ _ = some D.f_losses from ((valV_c kn_World_on_losses).trans ((valV_c kn_World_left_losses).trans valV_h)))]; rfl)).trans (congrArg _ ((putK_c kn_World_on_losses (by rw [(show valV _ _ = some D.f_losses from ((valV_c kn_World_left_losses).trans valV_h))]; rfl)).trans (congrArg _ ((putK_c kn_World_left_losses (by rw [(show valV _ _ = some D.f_losses from valV_h)]; rfl)).trans (congrArg _ (putK_h ((valV_c kn_World_counts_losses).trans valV_nil))))))))))))
theorem dv_World_counts (D : W_World) : valV D.kv (Sum.inr ("counts" : Str)) = some D.f_counts := ((valV_c kn_World_size_counts).trans ((valV_c kn_World_lasting_counts).trans ((valV_c kn_World_waiting_counts).trans ((valV_c kn_World_on_counts).trans ((valV_c kn_World_left_counts).trans ((valV_c kn_World_losses_counts).trans valV_h))))))
theorem dp_World_counts (D : W_World) (v : V) : putK D.kv (Sum.inr ("counts" : Str)) v = (D.put_counts v).kv := ((putK_c kn_World_size_counts (by rw [(show valV _ _ = some D.f_counts from ((valV_c kn_World_lasting_counts).trans ((valV_c kn_World_waiting_counts).trans ((valV_c kn_World_on_counts).trans ((valV_c kn_World_left_counts).trans ((valV_c kn_World_losses_counts).trans valV_h))))))]; rfl)).trans (congrArg _ ((putK_c kn_World_lasting_counts (by rw [(show valV _ _ = some D.f_counts from ((valV_c kn_World_waiting_counts).trans ((valV_c kn_World_on_counts).trans ((valV_c kn_World_left_counts).trans ((valV_c kn_World_losses_counts).trans valV_h)))))]; rfl)).trans (congrArg _ ((putK_c kn_World_waiting_counts (by rw [(show valV _ _ = some D.f_counts from ((valV_c kn_World_on_counts).trans ((valV_c kn_World_left_counts).trans ((valV_c kn_World_losses_counts).trans valV_h))))]; rfl)).trans (congrArg _ ((putK_c kn_World_on_counts (by rw [(show valV _ _ = some D.f_counts from ((valV_c kn_World_left_counts).trans ((valV_c kn_World_losses_counts).trans valV_h)))]; rfl)).trans (congrArg _ ((putK_c kn_World_left_counts (by rw [(show valV _ _ = some D.f_counts from ((valV_c kn_World_losses_counts).trans valV_h))]; rfl)).trans (congrArg _ ((putK_c kn_World_losses_counts (by rw [(show valV _ _ = some D.f_counts from valV_h)]; rfl)).trans (congrArg _ (putK_h valV_nil)))))))))))))
theorem dl_World (D : W_World) : D.kv.length < 100000 := by show 7 < 100000; decide
theorem dm_World (D : W_World) : mergeK [] D.kv = D.kv := by
  unfold mergeK W_World.kv
  simp only [List.foldl_cons, List.foldl_nil]
  rw [putK_new (k := Sum.inr ("size" : Str)) _ (show valV _ _ = none from valV_nil)]
  simp only [List.nil_append]
  rw [putK_new (k := Sum.inr ("lasting" : Str)) _ (show valV _ _ = none from ((valV_c kn_World_size_lasting).trans valV_nil))]
  simp only [List.nil_append, List.cons_append]
  rw [putK_new (k := Sum.inr ("waiting" : Str)) _ (show valV _ _ = none from ((valV_c kn_World_size_waiting).trans ((valV_c kn_World_lasting_waiting).trans valV_nil)))]
  simp only [List.nil_append, List.cons_append]
  rw [putK_new (k := Sum.inr ("on" : Str)) _ (show valV _ _ = none from ((valV_c kn_World_size_on).trans ((valV_c kn_World_lasting_on).trans ((valV_c kn_World_waiting_on).trans valV_nil))))]
  simp only [List.nil_append, List.cons_append]
  rw [putK_new (k := Sum.inr ("left" : Str)) _ (show valV _ _ = none from ((valV_c kn_World_size_left).trans ((valV_c kn_World_lasting_left).trans ((valV_c kn_World_waiting_left).trans ((valV_c kn_World_on_left).trans valV_nil)))))]
  simp only [List.nil_append, List.cons_append]
  rw [putK_new (k := Sum.inr ("losses" : Str)) _ (show valV _ _ = none from ((valV_c kn_World_size_losses).trans ((valV_c kn_World_lasting_losses).trans ((valV_c kn_World_waiting_losses).trans ((valV_c kn_World_on_losses).trans ((valV_c kn_World_left_losses).trans valV_nil))))))]
  simp only [List.nil_append, List.cons_append]
  rw [putK_new (k := Sum.inr ("counts" : Str)) _ (show valV _ _ = none from ((valV_c kn_World_size_counts).trans ((valV_c kn_World_lasting_counts).trans ((valV_c kn_World_waiting_counts).trans ((valV_c kn_World_on_counts).trans ((valV_c kn_World_left_counts).trans ((valV_c kn_World_losses_counts).trans valV_nil)))))))]
  simp only [List.nil_append, List.cons_append]
structure W_Upd1 where
  mk ::
  f_on : V
  f_left : V
  f_losses : V
def W_Upd1.kv (D : W_Upd1) : List (Key × V) := [(Sum.inr "on", D.f_on), (Sum.inr "left", D.f_left), (Sum.inr "losses", D.f_losses)]
@[reducible] def W_Upd1.put_on (v : V) (D : W_Upd1) : W_Upd1 := ⟨v, D.f_left, D.f_losses⟩
@[reducible] def W_Upd1.put_left (v : V) (D : W_Upd1) : W_Upd1 := ⟨D.f_on, v, D.f_losses⟩
@[reducible] def W_Upd1.put_losses (v : V) (D : W_Upd1) : W_Upd1 := ⟨D.f_on, D.f_left, v⟩
theorem kn_Upd1_on_left : ¬ ((Sum.inr ("on" : Str) : Key) = Sum.inr ("left" : Str)) := by decide +kernel
theorem kn_Upd1_on_losses : ¬ ((Sum.inr ("on" : Str) : Key) = Sum.inr ("losses" : Str)) := by decide +kernel
theorem kn_Upd1_left_on : ¬ ((Sum.inr ("left" : Str) : Key) = Sum.inr ("on" : Str)) := by decide +kernel
theorem kn_Upd1_left_losses : ¬ ((Sum.inr ("left" : Str) : Key) = Sum.inr ("losses" : Str)) := by decide +kernel
theorem kn_Upd1_losses_on : ¬ ((Sum.inr ("losses" : Str) : Key) = Sum.inr ("on" : Str)) := by decide +kernel
theorem kn_Upd1_losses_left : ¬ ((Sum.inr ("losses" : Str) : Key) = Sum.inr ("left" : Str)) := by decide +kernel
theorem dv_Upd1_on (D : W_Upd1) : valV D.kv (Sum.inr ("on" : Str)) = some D.f_on := valV_h
theorem dp_Upd1_on (D : W_Upd1) (v : V) : putK D.kv (Sum.inr ("on" : Str)) v = (D.put_on v).kv := (putK_h ((valV_c kn_Upd1_left_on).trans ((valV_c kn_Upd1_losses_on).trans valV_nil)))
theorem dv_Upd1_left (D : W_Upd1) : valV D.kv (Sum.inr ("left" : Str)) = some D.f_left := ((valV_c kn_Upd1_on_left).trans valV_h)
theorem dp_Upd1_left (D : W_Upd1) (v : V) : putK D.kv (Sum.inr ("left" : Str)) v = (D.put_left v).kv := ((putK_c kn_Upd1_on_left (by rw [(show valV _ _ = some D.f_left from valV_h)]; rfl)).trans (congrArg _ (putK_h ((valV_c kn_Upd1_losses_left).trans valV_nil))))
theorem dv_Upd1_losses (D : W_Upd1) : valV D.kv (Sum.inr ("losses" : Str)) = some D.f_losses := ((valV_c kn_Upd1_on_losses).trans ((valV_c kn_Upd1_left_losses).trans valV_h))
theorem dp_Upd1_losses (D : W_Upd1) (v : V) : putK D.kv (Sum.inr ("losses" : Str)) v = (D.put_losses v).kv := ((putK_c kn_Upd1_on_losses (by rw [(show valV _ _ = some D.f_losses from ((valV_c kn_Upd1_left_losses).trans valV_h))]; rfl)).trans (congrArg _ ((putK_c kn_Upd1_left_losses (by rw [(show valV _ _ = some D.f_losses from valV_h)]; rfl)).trans (congrArg _ (putK_h valV_nil)))))
theorem dl_Upd1 (D : W_Upd1) : D.kv.length < 100000 := by show 3 < 100000; decide
theorem dm_Upd1 (D : W_Upd1) : mergeK [] D.kv = D.kv := by
  unfold mergeK W_Upd1.kv
  simp only [List.foldl_cons, List.foldl_nil]
  rw [putK_new (k := Sum.inr ("on" : Str)) _ (show valV _ _ = none from valV_nil)]
  simp only [List.nil_append]
  rw [putK_new (k := Sum.inr ("left" : Str)) _ (show valV _ _ = none from ((valV_c kn_Upd1_on_left).trans valV_nil))]
  simp only [List.nil_append, List.cons_append]
  rw [putK_new (k := Sum.inr ("losses" : Str)) _ (show valV _ _ = none from ((valV_c kn_Upd1_on_losses).trans ((valV_c kn_Upd1_left_losses).trans valV_nil)))]
  simp only [List.nil_append, List.cons_append]
structure W_Upd2 where
  mk ::
  f_waiting : V
  f_on : V
  f_left : V
def W_Upd2.kv (D : W_Upd2) : List (Key × V) := [(Sum.inr "waiting", D.f_waiting), (Sum.inr "on", D.f_on), (Sum.inr "left", D.f_left)]
@[reducible] def W_Upd2.put_waiting (v : V) (D : W_Upd2) : W_Upd2 := ⟨v, D.f_on, D.f_left⟩
@[reducible] def W_Upd2.put_on (v : V) (D : W_Upd2) : W_Upd2 := ⟨D.f_waiting, v, D.f_left⟩
@[reducible] def W_Upd2.put_left (v : V) (D : W_Upd2) : W_Upd2 := ⟨D.f_waiting, D.f_on, v⟩
theorem kn_Upd2_waiting_on : ¬ ((Sum.inr ("waiting" : Str) : Key) = Sum.inr ("on" : Str)) := by decide +kernel
theorem kn_Upd2_waiting_left : ¬ ((Sum.inr ("waiting" : Str) : Key) = Sum.inr ("left" : Str)) := by decide +kernel
theorem kn_Upd2_on_waiting : ¬ ((Sum.inr ("on" : Str) : Key) = Sum.inr ("waiting" : Str)) := by decide +kernel
theorem kn_Upd2_on_left : ¬ ((Sum.inr ("on" : Str) : Key) = Sum.inr ("left" : Str)) := by decide +kernel
theorem kn_Upd2_left_waiting : ¬ ((Sum.inr ("left" : Str) : Key) = Sum.inr ("waiting" : Str)) := by decide +kernel
theorem kn_Upd2_left_on : ¬ ((Sum.inr ("left" : Str) : Key) = Sum.inr ("on" : Str)) := by decide +kernel
theorem dv_Upd2_waiting (D : W_Upd2) : valV D.kv (Sum.inr ("waiting" : Str)) = some D.f_waiting := valV_h
theorem dp_Upd2_waiting (D : W_Upd2) (v : V) : putK D.kv (Sum.inr ("waiting" : Str)) v = (D.put_waiting v).kv := (putK_h ((valV_c kn_Upd2_on_waiting).trans ((valV_c kn_Upd2_left_waiting).trans valV_nil)))
theorem dv_Upd2_on (D : W_Upd2) : valV D.kv (Sum.inr ("on" : Str)) = some D.f_on := ((valV_c kn_Upd2_waiting_on).trans valV_h)
theorem dp_Upd2_on (D : W_Upd2) (v : V) : putK D.kv (Sum.inr ("on" : Str)) v = (D.put_on v).kv := ((putK_c kn_Upd2_waiting_on (by rw [(show valV _ _ = some D.f_on from valV_h)]; rfl)).trans (congrArg _ (putK_h ((valV_c kn_Upd2_left_on).trans valV_nil))))
theorem dv_Upd2_left (D : W_Upd2) : valV D.kv (Sum.inr ("left" : Str)) = some D.f_left := ((valV_c kn_Upd2_waiting_left).trans ((valV_c kn_Upd2_on_left).trans valV_h))
theorem dp_Upd2_left (D : W_Upd2) (v : V) : putK D.kv (Sum.inr ("left" : Str)) v = (D.put_left v).kv := ((putK_c kn_Upd2_waiting_left (by rw [(show valV _ _ = some D.f_left from ((valV_c kn_Upd2_on_left).trans valV_h))]; rfl)).trans (congrArg _ ((putK_c kn_Upd2_on_left (by rw [(show valV _ _ = some D.f_left from valV_h)]; rfl)).trans (congrArg _ (putK_h valV_nil)))))
theorem dl_Upd2 (D : W_Upd2) : D.kv.length < 100000 := by show 3 < 100000; decide
theorem dm_Upd2 (D : W_Upd2) : mergeK [] D.kv = D.kv := by
  unfold mergeK W_Upd2.kv
  simp only [List.foldl_cons, List.foldl_nil]
  rw [putK_new (k := Sum.inr ("waiting" : Str)) _ (show valV _ _ = none from valV_nil)]
  simp only [List.nil_append]
  rw [putK_new (k := Sum.inr ("on" : Str)) _ (show valV _ _ = none from ((valV_c kn_Upd2_waiting_on).trans valV_nil))]
  simp only [List.nil_append, List.cons_append]
  rw [putK_new (k := Sum.inr ("left" : Str)) _ (show valV _ _ = none from ((valV_c kn_Upd2_waiting_left).trans ((valV_c kn_Upd2_on_left).trans valV_nil)))]
  simp only [List.nil_append, List.cons_append]
theorem sc_Disk_init : FnScope ["self", "sectors", "_"] ["self", "sectors"] (defScope s_Disk_init) := ⟨rfl, rfl, rfl, by decide +kernel, rfl, by decide +kernel, by decide +kernel⟩
theorem sc_Disk_size : FnScope ["self"] ["self"] (defScope s_Disk_size) := ⟨rfl, rfl, rfl, by decide +kernel, rfl, by decide +kernel, by decide +kernel⟩
theorem sc_Disk_read : FnScope ["self", "index"] ["self", "index"] (defScope s_Disk_read) := ⟨rfl, rfl, rfl, by decide +kernel, rfl, by decide +kernel, by decide +kernel⟩
theorem sc_Disk_pending : FnScope ["self"] ["self"] (defScope s_Disk_pending) := ⟨rfl, rfl, rfl, by decide +kernel, rfl, by decide +kernel, by decide +kernel⟩
theorem sc_Disk_counts : FnScope ["self"] ["self"] (defScope s_Disk_counts) := ⟨rfl, rfl, rfl, by decide +kernel, rfl, by decide +kernel, by decide +kernel⟩
theorem sc_Disk_lose_power : FnScope ["self"] ["self"] (defScope s_Disk_lose_power) := ⟨rfl, rfl, rfl, by decide +kernel, rfl, by decide +kernel, by decide +kernel⟩
theorem sc_Disk_operate : FnScope ["self"] ["self"] (defScope s_Disk_operate) := ⟨rfl, rfl, rfl, by decide +kernel, rfl, by decide +kernel, by decide +kernel⟩
theorem sc_Disk_write : FnScope ["self", "index", "data"] ["self", "index", "data"] (defScope s_Disk_write) := ⟨rfl, rfl, rfl, by decide +kernel, rfl, by decide +kernel, by decide +kernel⟩
theorem sc_Disk_sync : FnScope ["self"] ["self"] (defScope s_Disk_sync) := ⟨rfl, rfl, rfl, by decide +kernel, rfl, by decide +kernel, by decide +kernel⟩
theorem sc_Disk_fail_after : FnScope ["self", "operations"] ["self", "operations"] (defScope s_Disk_fail_after) := ⟨rfl, rfl, rfl, by decide +kernel, rfl, by decide +kernel, by decide +kernel⟩
theorem sc_Disk_power : FnScope ["self", "kept", "arrives", "index", "data"] ["self", "kept"] (defScope s_Disk_power) := ⟨rfl, rfl, rfl, by decide +kernel, rfl, by decide +kernel, by decide +kernel⟩
theorem sc_Disk_is_on : FnScope ["self"] ["self"] (defScope s_Disk_is_on) := ⟨rfl, rfl, rfl, by decide +kernel, rfl, by decide +kernel, by decide +kernel⟩
theorem sc_Disk_losses : FnScope ["self"] ["self"] (defScope s_Disk_losses) := ⟨rfl, rfl, rfl, by decide +kernel, rfl, by decide +kernel, by decide +kernel⟩
theorem sc_next : FnScope ["_law_state", "_law_limit", "_law_cell", "_law_value"] ["_law_state", "_law_limit"] (defScope s_next) := ⟨rfl, rfl, rfl, by decide +kernel, rfl, by decide +kernel, by decide +kernel⟩
theorem sc_same : FnScope ["_law_actual", "_law_expected", "_law_k"] ["_law_actual", "_law_expected"] (defScope s_same) := ⟨rfl, rfl, rfl, by decide +kernel, rfl, by decide +kernel, by decide +kernel⟩
theorem sc_refused : FnScope ["_law_size", "e"] ["_law_size"] (defScope s_refused) := ⟨rfl, rfl, rfl, by decide +kernel, rfl, by decide +kernel, by decide +kernel⟩
theorem sc_operate : FnScope ["_law_world"] ["_law_world"] (defScope s_operate) := ⟨rfl, rfl, rfl, by decide +kernel, rfl, by decide +kernel, by decide +kernel⟩
theorem sc_write : FnScope ["_law_state", "_law_world", "_law_disk", "_law_index", "_law_start", "_law_data", "_law_due", "_law_passed", "_law_done", "_law_k"] ["_law_state", "_law_world", "_law_disk"] (defScope s_write) := ⟨rfl, rfl, rfl, by decide +kernel, rfl, by decide +kernel, by decide +kernel⟩
theorem sc_sync : FnScope ["_law_world", "_law_disk", "_law_due", "_law_done", "_law_index", "_law_data"] ["_law_world", "_law_disk"] (defScope s_sync) := ⟨rfl, rfl, rfl, by decide +kernel, rfl, by decide +kernel, by decide +kernel⟩
theorem sc_fail : FnScope ["_law_state", "_law_world", "_law_disk", "_law_number", "_law_told"] ["_law_state", "_law_world", "_law_disk"] (defScope s_fail) := ⟨rfl, rfl, rfl, by decide +kernel, rfl, by decide +kernel, by decide +kernel⟩
theorem sc_power : FnScope ["_law_state", "_law_world", "_law_disk", "_law_k", "_law_kept", "_law_passed"] ["_law_state", "_law_world", "_law_disk"] (defScope s_power) := ⟨rfl, rfl, rfl, by decide +kernel, rfl, by decide +kernel, by decide +kernel⟩
theorem sc_deed : FnScope ["_law_state", "_law_world", "_law_disk", "_law_pick"] ["_law_state", "_law_world", "_law_disk"] (defScope s_deed) := ⟨rfl, rfl, rfl, by decide +kernel, rfl, by decide +kernel, by decide +kernel⟩
theorem sc_sector : FnScope ["_law_world", "_law_index", "_law_data", "_law_other", "_law_written"] ["_law_world", "_law_index"] (defScope s_sector) := ⟨rfl, rfl, rfl, by decide +kernel, rfl, by decide +kernel, by decide +kernel⟩
theorem sc_is_right : FnScope ["_law_state", "_law_world", "_law_disk", "_law_told", "_law_due", "_law_index", "_law_sector_here", "_law_place", "_law_data"] ["_law_state", "_law_world", "_law_disk"] (defScope s_is_right) := ⟨rfl, rfl, rfl, by decide +kernel, rfl, by decide +kernel, by decide +kernel⟩
theorem sc_law : FnScope ["_law_script", "_law_state", "_law_size", "_law_disk", "_law_world", "_law_k", "_law_index"] ["_law_script"] (defScope s_law) := ⟨rfl, rfl, rfl, by decide +kernel, rfl, by decide +kernel, by decide +kernel⟩
/-! ### what a disk is, without the heap -/
structure PW where
  n : Nat
  base : List (List Int)
  wait : List (Nat × List Int)
  on : Bool
  left : Option Int
  losses : Int
  writes : Int
  syncs : Int
def puts (ws : List (Nat × List Int)) (b : List (List Int)) : List (List Int) := ws.foldl (fun s q => s.set q.1 q.2) b
def PW.seen (w : PW) : List (List Int) := puts w.wait w.base
def PW.fail (w : PW) : PW := { w with on := false, left := none, losses := w.losses + 1 }
def PW.op (w : PW) : PW := if w.on = true then (match w.left with
  | some k => if k = 0 then w.fail else { w with left := some (k - 1) }
  | none => w) else w
def PW.wr (w : PW) (i : Nat) (d : List Int) : PW := { w with wait := w.wait ++ [(i, d)], writes := w.writes + 1 }
def PW.sy (w : PW) : PW := { w with base := w.seen, wait := [], syncs := w.syncs + 1 }
def PW.fa (w : PW) (k : Int) : PW := { w with left := some k }
def stepA (s : List (List Int)) (p : Bool × (Nat × List Int)) : List (List Int) := if p.1 = true then s.set p.2.1 p.2.2 else s
def arrive (ks : List Bool) (ws : List (Nat × List Int)) (b : List (List Int)) : List (List Int) := (ks.zip ws).foldl stepA b
def PW.pow (w : PW) (kept : List Bool) : PW := { w with base := arrive kept w.wait w.base, wait := [], on := true, left := none, losses := if w.on = true then w.losses + 1 else w.losses }
def zeros : List Int := List.replicate 256 0
def PW.new (n : Nat) : PW := ⟨n, List.replicate n zeros, [], true, none, 0, 0, 0⟩
structure PW.Ok (w : PW) : Prop where
  len : w.base.length = w.n
  big : 100 ≤ w.n ∧ w.n ≤ 600
  sec : ∀ d ∈ w.base, d.length = 256
  wt : ∀ q ∈ w.wait, q.1 < w.n ∧ q.2.length = 256
  lf : ∀ k, w.left = some k → 0 ≤ k
  off : w.on = false → w.left = none
theorem puts_len : ∀ (ws : List (Nat × List Int)) (b : List (List Int)), (puts ws b).length = b.length
  | [], _ => rfl
  | q :: ws, b => by
    show (puts ws (b.set q.1 q.2)).length = b.length
    rw [puts_len ws, List.length_set]
theorem puts_mem : ∀ {ws : List (Nat × List Int)} {b : List (List Int)} {d : List Int}, d ∈ puts ws b → d ∈ b ∨ ∃ q ∈ ws, d = q.2
  | [], _, _, h => .inl h
  | q :: ws, b, d, h => by
    rcases puts_mem (ws := ws) (b := b.set q.1 q.2) h with h | ⟨r, hr, e⟩
    · rcases List.mem_or_eq_of_mem_set h with h | h
      · exact .inl h
      · exact .inr ⟨q, List.mem_cons_self, h⟩
    · exact .inr ⟨r, List.mem_cons_of_mem _ hr, e⟩
theorem PW.Ok.seen_len {w : PW} (h : w.Ok) : w.seen.length = w.n := by
  unfold PW.seen
  rw [puts_len, h.len]
theorem PW.Ok.seen_sec {w : PW} (h : w.Ok) : ∀ d ∈ w.seen, d.length = 256 := fun d hd => by
  rcases puts_mem hd with q | ⟨q, hq, e⟩
  · exact h.sec d q
  · rw [e]; exact (h.wt q hq).2
theorem PW.op_frame (w : PW) : w.op.n = w.n ∧ w.op.base = w.base ∧ w.op.wait = w.wait ∧ w.op.writes = w.writes ∧ w.op.syncs = w.syncs := by
  unfold PW.op
  split
  · split
    · split <;> exact ⟨rfl, rfl, rfl, rfl, rfl⟩
    · exact ⟨rfl, rfl, rfl, rfl, rfl⟩
  · exact ⟨rfl, rfl, rfl, rfl, rfl⟩
theorem PW.Ok.op {w : PW} (h : w.Ok) : w.op.Ok := by
  obtain ⟨e1, e2, e3, e4, e5⟩ := PW.op_frame w
  refine ⟨by rw [e1, e2]; exact h.len, by rw [e1]; exact h.big, by rw [e2]; exact h.sec, by rw [e3, e1]; exact h.wt, fun k hk => ?_, fun ho => ?_⟩
  · unfold PW.op at hk
    split at hk
    · split at hk
      · rename_i k' hk'
        split at hk
        · cases hk
        · have h0 := h.lf k' hk'
          have e : k' - 1 = k := Option.some.inj hk
          omega
      · exact h.lf k hk
    · exact h.lf k hk
  · unfold PW.op at ho ⊢
    split at ho
    · rename_i hon
      rw [if_pos hon]
      split at ho
      · split at ho
        · rename_i hz
          rw [if_pos hz]
          rfl
        · rw [show w.on = true from hon] at ho; cases ho
      · rw [show w.on = true from hon] at ho; cases ho
    · rename_i hon
      rw [if_neg hon]
      exact h.off ho
theorem PW.Ok.wr {w : PW} (h : w.Ok) {i : Nat} {d : List Int} (hi : i < w.n) (hd : d.length = 256) : (w.wr i d).Ok :=
  ⟨h.len, h.big, h.sec, fun q hq => (by
    rcases List.mem_append.mp (show q ∈ w.wait ++ [(i, d)] from hq) with q' | q'
    · exact h.wt q q'
    · rw [List.mem_singleton.mp q']; exact ⟨hi, hd⟩), h.lf, h.off⟩
theorem PW.Ok.sy {w : PW} (h : w.Ok) : w.sy.Ok := ⟨h.seen_len, h.big, h.seen_sec, fun q hq => (by cases hq), h.lf, h.off⟩
theorem PW.Ok.fa {w : PW} (h : w.Ok) {k : Int} (hk : 0 ≤ k) (hon : w.on = true) : (w.fa k).Ok := ⟨h.len, h.big, h.sec, h.wt, fun j e => (by
  have e' : k = j := Option.some.inj e
  omega), fun ho => by
    have ho' : w.on = false := ho
    rw [hon] at ho'; cases ho'⟩
theorem stepA_len (s : List (List Int)) (p : Bool × (Nat × List Int)) : (stepA s p).length = s.length := by
  unfold stepA
  split
  · rw [List.length_set]
  · rfl
theorem foldA_len : ∀ (z : List (Bool × (Nat × List Int))) (b : List (List Int)), (z.foldl stepA b).length = b.length
  | [], _ => rfl
  | p :: z, b => by
    show (z.foldl stepA (stepA b p)).length = b.length
    rw [foldA_len z, stepA_len]
theorem foldA_mem : ∀ {z : List (Bool × (Nat × List Int))} {b : List (List Int)} {d : List Int}, d ∈ z.foldl stepA b → d ∈ b ∨ ∃ q ∈ z, d = q.2.2
  | [], _, _, h => .inl h
  | p :: z, b, d, h => by
    rcases foldA_mem (z := z) (b := stepA b p) h with h | ⟨q, hq, e⟩
    · unfold stepA at h
      split at h
      · rcases List.mem_or_eq_of_mem_set h with h | h
        · exact .inl h
        · exact .inr ⟨p, List.mem_cons_self, h⟩
      · exact .inl h
    · exact .inr ⟨q, List.mem_cons_of_mem _ hq, e⟩
theorem arrive_len (ks : List Bool) (ws : List (Nat × List Int)) (b : List (List Int)) : (arrive ks ws b).length = b.length := foldA_len _ _
theorem arrive_mem {ks : List Bool} {ws : List (Nat × List Int)} {b : List (List Int)} {d : List Int} (h : d ∈ arrive ks ws b) : d ∈ b ∨ ∃ q ∈ ws, d = q.2 := by
  rcases foldA_mem h with h | ⟨q, hq, e⟩
  · exact .inl h
  · exact .inr ⟨q.2, (List.of_mem_zip hq).2, e⟩
theorem fold_succ {α β : Type} {f : β → α → β} : ∀ {l : List α} {b : β} {i : Nat} {x : α}, l[i]? = some x → (l.take (i + 1)).foldl f b = f ((l.take i).foldl f b) x
  | [], _, _, _, h => by simp at h
  | a :: l, b, 0, x, h => by
    have e : a = x := Option.some.inj h
    subst e
    rfl
  | a :: l, b, i + 1, x, h => fold_succ (l := l) (b := f b a) (i := i) h
theorem PW.Ok.pow {w : PW} (h : w.Ok) (ks : List Bool) : (w.pow ks).Ok := ⟨by
    show (arrive ks w.wait w.base).length = w.n
    rw [arrive_len, h.len], h.big, fun d hd => (by
    rcases arrive_mem hd with q | ⟨q, hq, e⟩
    · exact h.sec d q
    · rw [e]; exact (h.wt q hq).2), fun q hq => (by cases hq), fun k e => (by cases e), fun e => (by cases e)⟩
theorem PW.Ok.new {n : Nat} (h : 100 ≤ n) (h2 : n ≤ 600) : (PW.new n).Ok := ⟨by show (List.replicate n zeros).length = n; rw [List.length_replicate], ⟨h, h2⟩, fun d hd => (by
    rw [List.eq_of_mem_replicate hd]
    show (List.replicate 256 (0 : Int)).length = 256
    rw [List.length_replicate]), fun q hq => (by cases hq), fun k e => (by cases e), fun e => (by cases e)⟩

/-! ### how it lies -/
@[reducible] def lv : Option Int → V
  | none => .non
  | some k => .int k
abbrev secO (d : List Int) : HO := .lst (d.map V.int)
def Sects (H : Hp) (A : List Addr) (b : List (List Int)) : Prop := A.length = b.length ∧ ∀ (i : Nat) (d : List Int), b[i]? = some d → ∃ q, A[i]? = some q ∧ H q = some (secO d) ∧ d.length = 256
def Waits (H : Hp) (A : List Addr) (ws : List (Nat × List Int)) : Prop := A.length = ws.length ∧ ∀ (j : Nat) (x : Nat × List Int), ws[j]? = some x → ∃ t q, A[j]? = some t ∧ H t = some (.tup [.int x.1, .ref q]) ∧ H q = some (secO x.2) ∧ x.2.length = 256
@[reducible] def fdk (w : PW) (l1 l2 l3 : Addr) : F_Disk := ⟨.bl false, .ref l1, .ref l2, .ref l3, .bl w.on, lv w.left, .int w.losses, .int w.writes, .int w.syncs⟩
structure DkAt (K : PySem.W.Frag) (H : Hp) (p l1 l2 l3 : Addr) (w : PW) : Prop where
  ob : ∃ dx, H p = some (.ins (He.ga K "Disk") dx (F_Disk.fl (fdk w l1 l2 l3)))
  s1 : ∃ A : List Addr, H l1 = some (.lst (A.map V.ref)) ∧ Sects H A w.base
  s2 : ∃ A : List Addr, H l2 = some (.lst (A.map V.ref)) ∧ Sects H A w.seen
  s3 : ∃ A : List Addr, H l3 = some (.lst (A.map V.ref)) ∧ Waits H A w.wait
  nd : l1 ≠ l2 ∧ l1 ≠ l3 ∧ l2 ≠ l3
  ok : w.Ok
/-- what is read only: lists of 256 secO, tuples -/
def Ro (o : HO) : Prop := (∃ d : List Int, d.length = 256 ∧ o = secO d) ∨ ∃ xs, o = .tup xs
def Keeps (H H' : Hp) : Prop := ∀ b o, H b = some o → Ro o → H' b = some o
theorem Keeps.of_same {H H' : Hp} (s : Same H H') : Keeps H H' := fun b o e _ => s b o e
theorem Keeps.trans {H H1 H2 : Hp} (a : Keeps H H1) (b : Keeps H1 H2) : Keeps H H2 := fun x o e r => b x o (a x o e r) r
theorem Keeps.refl {H : Hp} : Keeps H H := fun _ _ e _ => e
theorem ro_ints {d : List Int} (h : d.length = 256) : Ro (secO d) := .inl ⟨d, h, rfl⟩
theorem ro_tup {xs : List V} : Ro (.tup xs) := .inr ⟨xs, rfl⟩
theorem Keeps.upd {H : Hp} {a : Addr} {o u : HO} (h : H a = some u) (n : ¬ Ro u) : Keeps H (L2.upd H a o) := fun b v e r => by
  by_cases q : b = a
  · subst q; rw [h] at e; cases e; exact absurd r n
  · rw [upd_ne q]; exact e
theorem Keeps.updf {H H' : Hp} {a : Addr} {o : HO} (k : Keeps H H') (m : H a = none) : Keeps H (L2.upd H' a o) := fun b v e r => by
  rw [upd_ne (ne_of_none e m)]; exact k b v e r
theorem Keeps.updm {H H' : Hp} {a : Addr} {o u : HO} (k : Keeps H H') (h : H a = some u) (n : ¬ Ro u) : Keeps H (L2.upd H' a o) := fun b v e r => by
  by_cases q : b = a
  · subst q; rw [h] at e; cases e; exact absurd r n
  · rw [upd_ne q]; exact k b v e r
theorem nro_ins {C dx : Addr} {fs : List (Str × V)} : ¬ Ro (.ins C dx fs) := by
  rintro (⟨d, _, e⟩ | ⟨xs, e⟩) <;> cases e
theorem nro_dK {kvs : List (Key × V)} : ¬ Ro (.dK kvs) := by
  rintro (⟨d, _, e⟩ | ⟨xs, e⟩) <;> cases e
theorem nro_refs {A : List Addr} : ¬ Ro (.lst (A.map V.ref)) := by
  rintro (⟨d, hd, e⟩ | ⟨xs, e⟩)
  · cases A with
    | nil =>
      injection e with e
      cases d with
      | nil => simp at hd
      | cons => cases e
    | cons a A =>
      injection e with e
      cases d with
      | nil => cases e
      | cons b d =>
        injection e with e1 e2
        cases e1
  · cases e
theorem nro_ref {a : Addr} {xs : List V} : ¬ Ro (.lst (.ref a :: xs)) := by
  rintro (⟨d, hd, e⟩ | ⟨xs, e⟩)
  · injection e with e
    cases d with
    | nil => cases e
    | cons b d =>
      injection e with e1 e2
      cases e1
  · cases e
theorem nro_short {xs : List V} (h : xs.length < 256) : ¬ Ro (.lst xs) := by
  rintro (⟨d, hd, e⟩ | ⟨xs, e⟩)
  · injection e with e
    rw [e, List.length_map] at h
    omega
  · cases e
theorem Keeps.over {H H' : Hp} (k : Keeps H H') (a : Addr) (o : HO) : Keeps (L2.upd H a o) (L2.upd H' a o) := fun b u e r => by
  by_cases q : b = a
  · subst q; rw [upd_same] at e ⊢; exact e
  · rw [upd_ne q] at e ⊢; exact k b u e r
theorem Fr.over {H H' : Hp} {L : List Addr} (k : Fr H H' L) (a : Addr) (o : HO) : Fr (L2.upd H a o) (L2.upd H' a o) L := fun b u e n => by
  by_cases q : b = a
  · subst q; rw [upd_same] at e ⊢; exact e
  · rw [upd_ne q] at e ⊢; exact k b u e n
theorem refs_inj {A B : List Addr} (h : A.map V.ref = B.map V.ref) : A = B := (List.map_inj_right (fun _ _ e => by cases e; rfl)).mp h
theorem Sects.keep {H H' : Hp} {A : List Addr} {b : List (List Int)} (h : Sects H A b) (k : Keeps H H') : Sects H' A b := ⟨h.1, fun i d e => by
  obtain ⟨q, h1, h2, h3⟩ := h.2 i d e
  exact ⟨q, h1, k q _ h2 (ro_ints h3), h3⟩⟩
theorem Waits.keep {H H' : Hp} {A : List Addr} {b : List (Nat × List Int)} (h : Waits H A b) (k : Keeps H H') : Waits H' A b := ⟨h.1, fun i d e => by
  obtain ⟨t, q, h1, h2, h3, h4⟩ := h.2 i d e
  exact ⟨t, q, h1, k t _ h2 ro_tup, k q _ h3 (ro_ints h4), h4⟩⟩
theorem Sects.set {H : Hp} {A : List Addr} {b : List (List Int)} (h : Sects H A b) {i : Nat} {q : Addr} {d : List Int} (e : H q = some (secO d)) (l : d.length = 256) : Sects H (A.set i q) (b.set i d) := ⟨by rw [List.length_set, List.length_set, h.1], fun j c hc => by
  rw [List.getElem?_set] at hc ⊢
  by_cases hij : i = j
  · subst hij
    rw [if_pos rfl] at hc ⊢
    split at hc
    · rename_i hl
      rw [if_pos (by rw [h.1]; exact hl)]
      cases hc
      exact ⟨q, rfl, e, l⟩
    · cases hc
  · rw [if_neg hij] at hc ⊢
    exact h.2 j c hc⟩
theorem Waits.snoc {H : Hp} {A : List Addr} {ws : List (Nat × List Int)} (h : Waits H A ws) {t q : Addr} {i : Nat} {d : List Int} (e1 : H t = some (.tup [.int i, .ref q])) (e : H q = some (secO d)) (l : d.length = 256) : Waits H (A ++ [t]) (ws ++ [(i, d)]) := ⟨by rw [List.length_append, List.length_append, h.1] <;> rfl, fun j x hx => by
  by_cases hj : j < ws.length
  · rw [List.getElem?_append_left hj] at hx
    rw [List.getElem?_append_left (by rw [h.1]; exact hj)]
    exact h.2 j x hx
  · rw [List.getElem?_append_right (by omega)] at hx
    have hj0 : j - ws.length = 0 := by
      cases z : j - ws.length with
      | zero => rfl
      | succ m => rw [z] at hx; cases hx
    rw [hj0] at hx
    cases hx
    rw [List.getElem?_append_right (by rw [h.1]; omega), h.1, hj0]
    exact ⟨t, q, rfl, e1, e, l⟩⟩
theorem Waits.nil {H : Hp} : Waits H [] [] := ⟨rfl, fun j x e => by cases e⟩

/-! ### promises of the disk -/
def cD (K : PySem.W.Frag) : Addr := He.ga K "Disk"
def BadSize (H : Hp) (v : V) : Prop := (∃ n : Int, v = .int n ∧ (n < 100 ∨ 600 < n)) ∨ (∃ b, v = .bl b) ∨ (∃ s, v = .str s) ∨ v = .non ∨ ∃ a xs, v = .ref a ∧ H a = some (.lst xs)
def spDInit (K : PySem.W.Frag) : Sp := fun vs H Q E => ∃ x dx v, vs = [.ref x, v] ∧ H x = some (.ins (He.ga K "Disk") dx []) ∧
  ((∃ n : Nat, v = .int n ∧ 100 ≤ n ∧ n ≤ 600 ∧ ∀ l1 l2 l3 H', DkAt K H' x l1 l2 l3 (PW.new n) → Fr H H' [x] → H l1 = none → H l2 = none → H l3 = none → Q .non H') ∨ (BadSize H v ∧ E (.ref (He.ga K "InvalidArgument")) none H))
def spDSize (K : PySem.W.Frag) : Sp := fun vs H Q _ => ∃ p l1 l2 l3 w, vs = [.ref p] ∧ DkAt K H p l1 l2 l3 w ∧ Q (.int w.n) H
def spDRead (K : PySem.W.Frag) : Sp := fun vs H Q _ => ∃ p l1 l2 l3 w, ∃ (i : Nat) (d : List Int), vs = [.ref p, .int i] ∧ DkAt K H p l1 l2 l3 w ∧ w.seen[i]? = some d ∧ ∀ q, H q = none → Q (.ref q) (upd H q (secO d))
def spDPending (K : PySem.W.Frag) : Sp := fun vs H Q _ => ∃ p l1 l2 l3 w, vs = [.ref p] ∧ DkAt K H p l1 l2 l3 w ∧ Q (.int w.wait.length) H
def spDCounts (K : PySem.W.Frag) : Sp := fun vs H Q _ => ∃ p l1 l2 l3 w, vs = [.ref p] ∧ DkAt K H p l1 l2 l3 w ∧ ∀ q, H q = none → Q (.ref q) (upd H q (.tup [.int w.writes, .int w.syncs]))
def spDIsOn (K : PySem.W.Frag) : Sp := fun vs H Q _ => ∃ p l1 l2 l3 w, vs = [.ref p] ∧ DkAt K H p l1 l2 l3 w ∧ Q (.bl w.on) H
def spDLosses (K : PySem.W.Frag) : Sp := fun vs H Q _ => ∃ p l1 l2 l3 w, vs = [.ref p] ∧ DkAt K H p l1 l2 l3 w ∧ Q (.int w.losses) H
def spDLose (K : PySem.W.Frag) : Sp := fun vs H Q _ => ∃ p dx l1 l2 l3 w, vs = [.ref p] ∧ H p = some (.ins (He.ga K "Disk") dx (F_Disk.fl (fdk w l1 l2 l3))) ∧ Q .non (upd H p (.ins (He.ga K "Disk") dx (F_Disk.fl (fdk w.fail l1 l2 l3))))
def spDOperate (K : PySem.W.Frag) : Sp := fun vs H Q E => ∃ p dx l1 l2 l3 w, vs = [.ref p] ∧ H p = some (.ins (He.ga K "Disk") dx (F_Disk.fl (fdk w l1 l2 l3))) ∧
  (w.op.on = true → ∀ H', H' p = some (.ins (He.ga K "Disk") dx (F_Disk.fl (fdk w.op l1 l2 l3))) → Fr H H' [p] → Q .non H') ∧
  (w.op.on = false → ∀ H', H' p = some (.ins (He.ga K "Disk") dx (F_Disk.fl (fdk w.op l1 l2 l3))) → Fr H H' [p] → E (.ref (He.ga K "PowerOff")) none H')
def spDWrite (K : PySem.W.Frag) : Sp := fun vs H Q E => ∃ p l1 l2 l3 w, ∃ (i : Nat) (a : Addr) (d : List Int), vs = [.ref p, .int i, .ref a] ∧ (∀ o, DkAt K (upd H a o) p l1 l2 l3 w) ∧ H a = some (secO d) ∧ d.length = 256 ∧ i < w.n ∧ w.wait.length ≤ 1000 ∧
  (w.op.on = true → ∀ H', (∀ o, DkAt K (upd H' a o) p l1 l2 l3 (w.op.wr i d)) → Fr H H' [p, l2, l3] → Q .non H') ∧ (w.op.on = false → ∀ H', DkAt K H' p l1 l2 l3 w.op → Fr H H' [p] → E (.ref (He.ga K "PowerOff")) none H')
def spDSync (K : PySem.W.Frag) : Sp := fun vs H Q E => ∃ p l1 l2 l3 w, vs = [.ref p] ∧ DkAt K H p l1 l2 l3 w ∧
  (w.op.on = true → ∀ m1 m3 H', DkAt K H' p m1 l2 m3 w.op.sy → Fr H H' [p] → H m1 = none → H m3 = none → Q .non H') ∧ (w.op.on = false → ∀ H', DkAt K H' p l1 l2 l3 w.op → Fr H H' [p] → E (.ref (He.ga K "PowerOff")) none H')
def spDFail (K : PySem.W.Frag) : Sp := fun vs H Q E => ∃ p l1 l2 l3 w, ∃ k : Int, vs = [.ref p, .int k] ∧ DkAt K H p l1 l2 l3 w ∧ 0 ≤ k ∧
  (w.on = true → ∀ H', DkAt K H' p l1 l2 l3 (w.fa k) → Fr H H' [p] → Q .non H') ∧ (w.on = false → E (.ref (He.ga K "PowerOff")) none H)
def spDPower (K : PySem.W.Frag) : Sp := fun vs H Q _ => ∃ p l1 l2 l3 w, ∃ (a : Addr) (ks : List Bool), vs = [.ref p, .ref a] ∧ DkAt K H p l1 l2 l3 w ∧ H a = some (.lst (ks.map V.bl)) ∧ a ≠ l1 ∧
  ∀ m2 m3 H', DkAt K H' p l1 m2 m3 (w.pow ks) → Fr H H' [p, l1] → H m2 = none → H m3 = none → Q .non H'

/-! ### promises of the law's defs -/
def StA (H : Hp) (l a : Addr) : Prop := ∃ (ns : List Int) (i b s : Int), H l = some (.lst [.ref a, .int i, .int b, .int s]) ∧ H a = some (.lst (ns.map V.int)) ∧ 0 ≤ i ∧ 0 ≤ b ∧ 0 ≤ s ∧ s < 2147483647
def spNext (K : PySem.W.Frag) : Sp := fun vs H Q _ => ∃ l sa lim, vs = [.ref l, .int lim] ∧ StA H l sa ∧ 0 < lim ∧ lim < 2 ^ 62 ∧ ∀ r x, 0 ≤ r → r < lim → (∃ y ys, x = .lst (.ref y :: ys)) → StA (upd H l x) l sa → Q (.int r) (upd H l x)
/-- data of equal worth: what _law_same is asked -/
inductive Alike (H : Hp) : Nat → V → V → Prop where
  | non {n : Nat} : Alike H n .non .non
  | bl {n : Nat} (b : Bool) : Alike H n (.bl b) (.bl b)
  | int {n : Nat} (i : Int) : Alike H n (.int i) (.int i)
  | str {n : Nat} (s : Str) (h : PyData.canLay0 (.str s) = true) : Alike H n (.str s) (.str s)
  | lst {n : Nat} {a b : Addr} {xs ys : List V} (ea : H a = some (.lst xs)) (eb : H b = some (.lst ys)) (l : xs.length = ys.length) (z : ys.length ≤ 1000) (h : ∀ (i : Nat) x y, xs[i]? = some x → ys[i]? = some y → Alike H n x y) : Alike H (n + 1) (.ref a) (.ref b)
  | tup {n : Nat} {a b : Addr} {xs ys : List V} (ea : H a = some (.tup xs)) (eb : H b = some (.tup ys)) (l : xs.length = ys.length) (z : ys.length ≤ 1000) (h : ∀ (i : Nat) x y, xs[i]? = some x → ys[i]? = some y → Alike H n x y) : Alike H (n + 1) (.ref a) (.ref b)
def spSame (K : PySem.W.Frag) (n : Nat) : Sp := fun vs H Q _ => ∃ x y, vs = [x, y] ∧ Alike H n x y ∧ ∀ H', Same H H' → Q (.bl true) H'
/-- at level n the calls within speak of data of a depth below -/
def spSameI (K : PySem.W.Frag) : Nat → Sp
  | 0 => fun vs _ _ _ => vs.length = 2 ∧ False
  | n + 1 => spSame K n
def spRefused (K : PySem.W.Frag) : Sp := fun vs H Q _ => ∃ v, vs = [v] ∧ BadSize H v ∧ ∀ H', Same H H' → Q (.bl true) H'
@[reducible] def wdl (w : PW) (e1 e2 e3 : Addr) : W_World := ⟨.int w.n, .ref e1, .ref e2, .bl w.on, lv w.left, .int w.losses, .ref e3⟩
def Last (H : Hp) (kvs : List (Key × V)) (b : List (List Int)) : Prop := ∀ (i : Nat) (d : List Int), b[i]? = some d → (valV kvs (Sum.inl (i : Int)) = none ∧ d = zeros) ∨ ∃ q, valV kvs (Sum.inl (i : Int)) = some (.ref q) ∧ H q = some (secO d)
structure WdAt (H : Hp) (wd e1 e2 e3 : Addr) (m : Nat) (w : PW) : Prop where
  ob : H wd = some (.dK (W_World.kv (wdl w e1 e2 e3)))
  lst : ∃ kvs, H e1 = some (.dK kvs) ∧ Last H kvs w.base ∧ kvs.length + w.wait.length ≤ m
  wt : ∃ A : List Addr, H e2 = some (.lst (A.map V.ref)) ∧ Waits H A w.wait
  ct : H e3 = some (.lst [.int w.writes, .int w.syncs])
structure Inv0 (K : PySem.W.Frag) (H : Hp) (sa st wd e1 e2 e3 p l1 l2 l3 : Addr) (m : Nat) (w : PW) : Prop where
  sta : StA H st sa
  wda : WdAt H wd e1 e2 e3 m w
  dk : DkAt K H p l1 l2 l3 w
  nd : [sa, st, wd, e1, e2, e3, p, l1, l2, l3].Nodup
def spOperate (K : PySem.W.Frag) : Sp := fun vs H Q _ => ∃ wd e1 e2 e3 w, vs = [.ref wd] ∧ H wd = some (.dK (W_World.kv (wdl w e1 e2 e3))) ∧ w.Ok ∧ ∀ H', H' wd = some (.dK (W_World.kv (wdl w.op e1 e2 e3))) → Fr H H' [wd] → Q (.bl w.op.on) H'
/-- one deed -/
def spStep (K : PySem.W.Frag) : Sp := fun vs H Q _ => ∃ sa st wd e1 e2 e3 p l1 l2 l3 m w, vs = [.ref st, .ref wd, .ref p] ∧ Inv0 K H sa st wd e1 e2 e3 p l1 l2 l3 m w ∧ m ≤ 500 ∧ ∀ f1 f2 f3 k1 k2 k3 w' H', Inv0 K H' sa st wd f1 f2 f3 p k1 k2 k3 (m + 1) w' → w'.n = w.n → Q (.bl true) H'
def spWrite := spStep
def spFail := spStep
def spPower := spStep
def spDeed := spStep
def spSync (K : PySem.W.Frag) : Sp := fun vs H Q _ => ∃ sa st wd e1 e2 e3 p l1 l2 l3 m w, vs = [.ref wd, .ref p] ∧ Inv0 K H sa st wd e1 e2 e3 p l1 l2 l3 m w ∧ m ≤ 500 ∧ ∀ f1 f2 f3 k1 k2 k3 w' H', Inv0 K H' sa st wd f1 f2 f3 p k1 k2 k3 (m + 1) w' → w'.n = w.n → Q (.bl true) H'
def spRight (K : PySem.W.Frag) : Sp := fun vs H Q _ => ∃ sa st wd e1 e2 e3 p l1 l2 l3 m w, vs = [.ref st, .ref wd, .ref p] ∧ Inv0 K H sa st wd e1 e2 e3 p l1 l2 l3 m w ∧ m ≤ 500 ∧ ∀ H', Inv0 K H' sa st wd e1 e2 e3 p l1 l2 l3 m w → Q (.bl true) H'
def spSector (K : PySem.W.Frag) : Sp := fun vs H Q _ => ∃ wd e1 e2 e3 m w, ∃ (i : Nat) (d : List Int), vs = [.ref wd, .int i] ∧ WdAt H wd e1 e2 e3 m w ∧ w.Ok ∧ w.seen[i]? = some d ∧ ∀ q H', H' q = some (secO d) → Same H H' → Q (.ref q) H'
def spLaw (K : PySem.W.Frag) : Sp := fun vs H Q _ => ∃ (a : Addr) (ns : List Int), vs = [.ref a] ∧ SqL K H a (ns.map V.int) ∧ ns.length ≤ 63 ∧ ∀ H', Q (.bl true) H'

/-! ### what lies elsewhere -/
theorem StA.keep {H H' : Hp} {l a : Addr} {L : List Addr} (h : StA H l a) (f : Fr H H' L) (n1 : l ∉ L) (n2 : a ∉ L) : StA H' l a := by
  obtain ⟨ns, i, b, s, h1, h2, h3⟩ := h
  exact ⟨ns, i, b, s, f.at h1 n1, f.at h2 n2, h3⟩
theorem Last.keep {H H' : Hp} {kvs : List (Key × V)} {b : List (List Int)} (h : Last H kvs b) (k : Keeps H H') (o : ∀ d ∈ b, d.length = 256) : Last H' kvs b := fun i d e => by
  rcases h i d e with q | ⟨q, h1, h2⟩
  · exact .inl q
  · exact .inr ⟨q, h1, k q _ h2 (ro_ints (o d (List.mem_of_getElem? e)))⟩
theorem WdAt.keep {H H' : Hp} {wd e1 e2 e3 : Addr} {m : Nat} {w : PW} {L : List Addr} (h : WdAt H wd e1 e2 e3 m w) (ok : w.Ok) (f : Fr H H' L) (k : Keeps H H') (n0 : wd ∉ L) (n1 : e1 ∉ L) (n2 : e2 ∉ L) (n3 : e3 ∉ L) : WdAt H' wd e1 e2 e3 m w := by
  obtain ⟨h0, ⟨kvs, h1, h2, h3⟩, ⟨A, h4, h5⟩, h6⟩ := h
  exact ⟨f.at h0 n0, ⟨kvs, f.at h1 n1, h2.keep k ok.sec, h3⟩, ⟨A, f.at h4 n2, h5.keep k⟩, f.at h6 n3⟩
theorem DkAt.keepL {K : PySem.W.Frag} {H H' : Hp} {p l1 l2 l3 : Addr} {w : PW} {L : List Addr} (D : DkAt K H p l1 l2 l3 w) (f : Fr H H' L) (k : Keeps H H') (n0 : p ∉ L) (n1 : l1 ∉ L) (n2 : l2 ∉ L) (n3 : l3 ∉ L) : DkAt K H' p l1 l2 l3 w := by
  obtain ⟨⟨dx, hp⟩, ⟨A1, h1, s1⟩, ⟨A2, h2, s2⟩, ⟨A3, h3, s3⟩, nd, ok⟩ := D
  exact ⟨⟨dx, f.at hp n0⟩, ⟨A1, f.at h1 n1, s1.keep k⟩, ⟨A2, f.at h2 n2, s2.keep k⟩, ⟨A3, f.at h3 n3, s3.keep k⟩, nd, ok⟩
/-- the ten objects are different ones -/
structure Ne10 (sa st wd e1 e2 e3 p l1 l2 l3 : Addr) : Prop where
  a : sa ≠ st ∧ sa ≠ wd ∧ sa ≠ e1 ∧ sa ≠ e2 ∧ sa ≠ e3 ∧ sa ≠ p ∧ sa ≠ l1 ∧ sa ≠ l2 ∧ sa ≠ l3
  b : st ≠ wd ∧ st ≠ e1 ∧ st ≠ e2 ∧ st ≠ e3 ∧ st ≠ p ∧ st ≠ l1 ∧ st ≠ l2 ∧ st ≠ l3
  c : wd ≠ e1 ∧ wd ≠ e2 ∧ wd ≠ e3 ∧ wd ≠ p ∧ wd ≠ l1 ∧ wd ≠ l2 ∧ wd ≠ l3
  d : e1 ≠ e2 ∧ e1 ≠ e3 ∧ e1 ≠ p ∧ e1 ≠ l1 ∧ e1 ≠ l2 ∧ e1 ≠ l3
  e : e2 ≠ e3 ∧ e2 ≠ p ∧ e2 ≠ l1 ∧ e2 ≠ l2 ∧ e2 ≠ l3
  f : e3 ≠ p ∧ e3 ≠ l1 ∧ e3 ≠ l2 ∧ e3 ≠ l3
  g : p ≠ l1 ∧ p ≠ l2 ∧ p ≠ l3
  h : l1 ≠ l2 ∧ l1 ≠ l3 ∧ l2 ≠ l3
theorem ne10 {sa st wd e1 e2 e3 p l1 l2 l3 : Addr} : [sa, st, wd, e1, e2, e3, p, l1, l2, l3].Nodup ↔ Ne10 sa st wd e1 e2 e3 p l1 l2 l3 := by
  constructor
  · intro h
    simp only [List.nodup_cons, List.mem_cons, List.not_mem_nil, or_false, not_or, not_false_eq_true, List.nodup_nil, and_true] at h
    obtain ⟨a, b, c, d, e, f, g, h1, h2⟩ := h
    exact ⟨a, b, c, d, e, f, g, h1.1, h1.2, h2⟩
  · rintro ⟨a, b, c, d, e, f, g, h1, h2, h3⟩
    simp only [List.nodup_cons, List.mem_cons, List.not_mem_nil, or_false, not_or, not_false_eq_true, List.nodup_nil, and_true]
    exact ⟨a, b, c, d, e, f, g, ⟨h1, h2⟩, h3⟩
theorem Inv0.same {K : PySem.W.Frag} {H H' : Hp} {sa st wd e1 e2 e3 p l1 l2 l3 : Addr} {m : Nat} {w : PW} (I : Inv0 K H sa st wd e1 e2 e3 p l1 l2 l3 m w) (s : Same H H') : Inv0 K H' sa st wd e1 e2 e3 p l1 l2 l3 m w := by
  have f : Fr H H' [] := Fr.of_same s
  have k := Keeps.of_same s
  have n : ∀ x : Addr, x ∉ ([] : List Addr) := fun x h => by cases h
  exact ⟨I.sta.keep f (n _) (n _), I.wda.keep I.dk.ok f k (n _) (n _) (n _) (n _), I.dk.keepL f k (n _) (n _) (n _) (n _), I.nd⟩
theorem Inv0.stp {K : PySem.W.Frag} {H : Hp} {sa st wd e1 e2 e3 p l1 l2 l3 : Addr} {m : Nat} {w : PW} {x : HO} (I : Inv0 K H sa st wd e1 e2 e3 p l1 l2 l3 m w) (s : StA (upd H st x) st sa) : Inv0 K (upd H st x) sa st wd e1 e2 e3 p l1 l2 l3 m w := by
  obtain ⟨_, _, _, _, h, _⟩ := I.sta
  have f : Fr H (upd H st x) [st] := Fr.refl.updm List.mem_cons_self
  have k : Keeps H (upd H st x) := Keeps.upd h nro_ref
  obtain ⟨na, nb, nc, nd, ne, nf, ng, nh⟩ := ne10.mp I.nd
  have q : ∀ {y : Addr}, st ≠ y → y ∉ [st] := fun h m => h (List.mem_singleton.mp m).symm
  obtain ⟨b1, b2, b3, b4, b5, b6, b7, b8⟩ := nb
  exact ⟨s, I.wda.keep I.dk.ok f k (q b1) (q b2) (q b3) (q b4), I.dk.keepL f k (q b5) (q b6) (q b7) (q b8), I.nd⟩
theorem Inv0.more {K : PySem.W.Frag} {H : Hp} {sa st wd e1 e2 e3 p l1 l2 l3 : Addr} {m m' : Nat} {w : PW} (I : Inv0 K H sa st wd e1 e2 e3 p l1 l2 l3 m w) (h : m ≤ m') : Inv0 K H sa st wd e1 e2 e3 p l1 l2 l3 m' w := by
  obtain ⟨sa, ⟨h0, ⟨kvs, h1, h2, h3⟩, h4, h5⟩, dk, nd⟩ := I
  exact ⟨sa, ⟨h0, ⟨kvs, h1, h2, Nat.le_trans h3 h⟩, h4, h5⟩, dk, nd⟩

theorem WdAt.wob {H : Hp} {wd e1 e2 e3 : Addr} {m : Nat} {w w' : PW} (h : WdAt H wd e1 e2 e3 m w) (ok : w.Ok) (b : w'.base = w.base) (wt : w'.wait = w.wait) (wr : w'.writes = w.writes) (sy : w'.syncs = w.syncs) (n : e1 ≠ wd ∧ e2 ≠ wd ∧ e3 ≠ wd) :
    WdAt (upd H wd (.dK (W_World.kv (wdl w' e1 e2 e3)))) wd e1 e2 e3 m w' := by
  obtain ⟨h0, ⟨kvs, h1, h2, h3⟩, ⟨A, h4, h5⟩, h6⟩ := h
  have k : Keeps H (upd H wd (.dK (W_World.kv (wdl w' e1 e2 e3)))) := Keeps.upd h0 nro_dK
  exact ⟨upd_same, ⟨kvs, by rw [upd_ne n.1]; exact h1, by rw [b]; exact h2.keep k ok.sec, by rw [wt]; exact h3⟩, ⟨A, by rw [upd_ne n.2.1]; exact h4, by rw [wt]; exact h5.keep k⟩, by rw [upd_ne n.2.2, wr, sy]; exact h6⟩
theorem WdAt.more {H : Hp} {wd e1 e2 e3 : Addr} {m m' : Nat} {w : PW} (h : WdAt H wd e1 e2 e3 m w) (l : m ≤ m') : WdAt H wd e1 e2 e3 m' w := by
  obtain ⟨h0, ⟨kvs, h1, h2, h3⟩, h4, h5⟩ := h
  exact ⟨h0, ⟨kvs, h1, h2, Nat.le_trans h3 l⟩, h4, h5⟩

theorem fresh10 {K : PySem.W.Frag} {H : Hp} {sa st wd e1 e2 e3 p l1 l2 l3 y : Addr} {m : Nat} {w w' : PW} (I1 : StA H st sa) (I2 : WdAt H wd e1 e2 e3 m w) (I3 : DkAt K H p l1 l2 l3 w') (h : H y = none) :
    sa ≠ y ∧ st ≠ y ∧ wd ≠ y ∧ e1 ≠ y ∧ e2 ≠ y ∧ e3 ≠ y ∧ p ≠ y ∧ l1 ≠ y ∧ l2 ≠ y ∧ l3 ≠ y := by
  obtain ⟨_, _, _, _, h1, h2, _⟩ := I1
  obtain ⟨h3, ⟨_, h4, _⟩, ⟨_, h5, _⟩, h6⟩ := I2
  obtain ⟨⟨_, h7⟩, ⟨_, h8, _⟩, ⟨_, h9, _⟩, ⟨_, h10, _⟩, _, _⟩ := I3
  exact ⟨ne_of_none h2 h, ne_of_none h1 h, ne_of_none h3 h, ne_of_none h4 h, ne_of_none h5 h, ne_of_none h6 h, ne_of_none h7 h, ne_of_none h8 h, ne_of_none h9 h, ne_of_none h10 h⟩

theorem nro_bls {ks : List Bool} : ¬ Ro (.lst (ks.map V.bl)) := by
  rintro (⟨d, hd, e⟩ | ⟨xs, e⟩)
  · cases ks with
    | nil =>
      injection e with e
      cases d with
      | nil => simp at hd
      | cons => cases e
    | cons a A =>
      injection e with e
      cases d with
      | nil => cases e
      | cons b d =>
        injection e with e1 e2
        cases e1
  · cases e
theorem Inv0.oth {K : PySem.W.Frag} {H : Hp} {sa st wd e1 e2 e3 p l1 l2 l3 y : Addr} {m : Nat} {w : PW} {u o : HO} (I : Inv0 K H sa st wd e1 e2 e3 p l1 l2 l3 m w)
    (n : sa ≠ y ∧ st ≠ y ∧ wd ≠ y ∧ e1 ≠ y ∧ e2 ≠ y ∧ e3 ≠ y ∧ p ≠ y ∧ l1 ≠ y ∧ l2 ≠ y ∧ l3 ≠ y) (h : H y = some u) (r : ¬ Ro u) : Inv0 K (upd H y o) sa st wd e1 e2 e3 p l1 l2 l3 m w := by
  have f : Fr H (upd H y o) [y] := Fr.refl.updm List.mem_cons_self
  have k : Keeps H (upd H y o) := Keeps.upd h r
  have q : ∀ {z : Addr}, z ≠ y → z ∉ [y] := fun h m => h (List.mem_singleton.mp m)
  obtain ⟨b0, b1, b2, b3, b4, b5, b6, b7, b8, b9⟩ := n
  exact ⟨I.sta.keep f (q b1) (q b0), I.wda.keep I.dk.ok f k (q b2) (q b3) (q b4) (q b5), I.dk.keepL f k (q b6) (q b7) (q b8) (q b9), I.nd⟩
def t_Disk_init (K : PySem.W.Frag) (E : XK) : TS :=
  (tSeq (tIfS (tOr (tNot (tB (tCB (rIsi K) (tCons (tVar 1) (tCons (tC (.ty "int")) tNil))))) (tOr (tB (tCB (rIsi K) (tCons (tVar 1) (tCons (tC (.ty "bool")) tNil)))) (tNot (tTest (tChain rLeI rLeI (tC (.int 100)) (tVar 1) (tC (.int 600))))))) (tRaiseZ (fun cls d _ H => E cls d H) (.ref (He.ga K "InvalidArgument"))) tNext)
  (tSeq (sFldI (He.ga K "Disk") "in_use" (tVar 0) (tC (.bl false)))
  (tSeq (sFldI (He.ga K "Disk") "lasting" (tVar 0) (tLc (iRng1 (tCons (tVar 1) tNil)) (gName 2) tYes (tOp rRep (tLst (tCons (tC (.int 0)) tNil)) (tC (.int 256))) [2]))
  (tSeq (sFldI (He.ga K "Disk") "seen" (tVar 0) (tCB (rListQ K) (tCons (tFldI (He.ga K "Disk") "lasting" (tVar 0)) tNil)))
  (tSeq (sFldI (He.ga K "Disk") "waiting" (tVar 0) (tLst tNil))
  (tSeq (sFldI (He.ga K "Disk") "powered" (tVar 0) (tC (.bl true)))
  (tSeq (sFldI (He.ga K "Disk") "left" (tVar 0) (tC .non))
  (tSeq (sFldI (He.ga K "Disk") "failures" (tVar 0) (tC (.int 0)))
  (tSeq (sFldI (He.ga K "Disk") "writes" (tVar 0) (tC (.int 0)))
  (sFldI (He.ga K "Disk") "syncs" (tVar 0) (tC (.int 0))))))))))))
def t_Disk_size (K : PySem.W.Frag) : TS :=
  (tRet (tCB (rLenQ K) (tCons (tFldZ (He.ga K "Disk") F_Disk.fl F_Disk.f_lasting (tVar 0)) tNil)))
def t_Disk_read (K : PySem.W.Frag) : TS :=
  (tRet (tCB (rListQ K) (tCons (tOp (rIxL K) (tFldZ (He.ga K "Disk") F_Disk.fl F_Disk.f_seen (tVar 0)) (tVar 1)) tNil)))
def t_Disk_pending (K : PySem.W.Frag) : TS :=
  (tRet (tCB (rLenQ K) (tCons (tFldZ (He.ga K "Disk") F_Disk.fl F_Disk.f_waiting (tVar 0)) tNil)))
def t_Disk_counts (K : PySem.W.Frag) : TS :=
  (tRet (tTup (tCons (tFldZ (He.ga K "Disk") F_Disk.fl F_Disk.f_writes (tVar 0)) (tCons (tFldZ (He.ga K "Disk") F_Disk.fl F_Disk.f_syncs (tVar 0)) tNil))))
def t_Disk_lose_power (K : PySem.W.Frag) : TS :=
  (tSeq (sFldZ (He.ga K "Disk") F_Disk.fl F_Disk.put_powered (tVar 0) (tC (.bl false)))
  (tSeq (sFldZ (He.ga K "Disk") F_Disk.fl F_Disk.put_in_use (tVar 0) (tC (.bl false)))
  (tSeq (sFldZ (He.ga K "Disk") F_Disk.fl F_Disk.put_left (tVar 0) (tC .non))
  (sFldAugZ (He.ga K "Disk") F_Disk.fl F_Disk.f_failures F_Disk.put_failures rAdd (tVar 0) (tC (.int 1))))))
def t_Disk_operate (K : PySem.W.Frag) (E : XK) : TS :=
  (tSeq (tIfS (tAnd (tB (tFldZ (He.ga K "Disk") F_Disk.fl F_Disk.f_powered (tVar 0))) (tTest (tOp rEq (tFldZ (He.ga K "Disk") F_Disk.fl F_Disk.f_left (tVar 0)) (tC (.int 0))))) (tDrop (tMethZ (He.ga K "Disk") "lose_power" (spDLose K) (fun _ => E0) (tVar 0) tNil)) tNext)
  (tSeq (tIfS (tNot (tB (tFldZ (He.ga K "Disk") F_Disk.fl F_Disk.f_powered (tVar 0)))) (tRaiseZ (fun cls d _ H => E cls d H) (.ref (He.ga K "PowerOff"))) tNext)
  (tIfS (tTest (tOp rNotNo (tFldZ (He.ga K "Disk") F_Disk.fl F_Disk.f_left (tVar 0)) (tC .non))) (sFldZ (He.ga K "Disk") F_Disk.fl F_Disk.put_left (tVar 0) (tOp rSubI (tFldZ (He.ga K "Disk") F_Disk.fl F_Disk.f_left (tVar 0)) (tC (.int 1)))) tNext)))
def t_Disk_write (K : PySem.W.Frag) (E : XK) : TS :=
  (tSeq (tDrop (tMethZ (He.ga K "Disk") "operate" (spDOperate K) (fun _ => E) (tVar 0) tNil))
  (tSeq (tAsg (tCB (rListQ K) (tCons (tVar 2) tNil)) (gSub (tFldZ (He.ga K "Disk") F_Disk.fl F_Disk.f_seen (tVar 0)) (tVar 1) rSetL))
  (tSeq (tDrop (tBM K "list" rAppend (tFldZ (He.ga K "Disk") F_Disk.fl F_Disk.f_waiting (tVar 0)) (tCons (tTup (tCons (tVar 1) (tCons (tCB (rListQ K) (tCons (tVar 2) tNil)) tNil))) tNil)))
  (sFldAugZ (He.ga K "Disk") F_Disk.fl F_Disk.f_writes F_Disk.put_writes rAdd (tVar 0) (tC (.int 1))))))
def t_Disk_sync (K : PySem.W.Frag) (E : XK) : TS :=
  (tSeq (tDrop (tMethZ (He.ga K "Disk") "operate" (spDOperate K) (fun _ => E) (tVar 0) tNil))
  (tSeq (sFldZ (He.ga K "Disk") F_Disk.fl F_Disk.put_lasting (tVar 0) (tCB (rListQ K) (tCons (tFldZ (He.ga K "Disk") F_Disk.fl F_Disk.f_seen (tVar 0)) tNil)))
  (tSeq (sFldZ (He.ga K "Disk") F_Disk.fl F_Disk.put_waiting (tVar 0) (tLst tNil))
  (sFldAugZ (He.ga K "Disk") F_Disk.fl F_Disk.f_syncs F_Disk.put_syncs rAdd (tVar 0) (tC (.int 1))))))
def t_Disk_fail_after (K : PySem.W.Frag) (E : XK) : TS :=
  (tSeq (tIfS (tNot (tB (tFldZ (He.ga K "Disk") F_Disk.fl F_Disk.f_powered (tVar 0)))) (tRaiseZ (fun cls d _ H => E cls d H) (.ref (He.ga K "PowerOff"))) tNext)
  (sFldZ (He.ga K "Disk") F_Disk.fl F_Disk.put_left (tVar 0) (tVar 1)))
def t_Disk_power (K : PySem.W.Frag) : TS :=
  (tSeq (tIfS (tB (tFldZ (He.ga K "Disk") F_Disk.fl F_Disk.f_powered (tVar 0))) (tDrop (tMethZ (He.ga K "Disk") "lose_power" (spDLose K) (fun _ => E0) (tVar 0) tNil)) tNext)
  (tSeq (tFor (iZip K (tCons (tVar 1) (tCons (tFldZ (He.ga K "Disk") F_Disk.fl F_Disk.f_waiting (tVar 0)) tNil))) (gTup K 2 (gCons (gName 2) (gCons (gTup K 2 (gCons (gName 3) (gCons (gName 4) gNil))) gNil))) (tIfS (tB (tVar 2)) (tAsg (tVar 4) (gSub (tFldZ (He.ga K "Disk") F_Disk.fl F_Disk.f_lasting (tVar 0)) (tVar 3) rSetL)) tNext))
  (tSeq (sFldZ (He.ga K "Disk") F_Disk.fl F_Disk.put_seen (tVar 0) (tCB (rListQ K) (tCons (tFldZ (He.ga K "Disk") F_Disk.fl F_Disk.f_lasting (tVar 0)) tNil)))
  (tSeq (sFldZ (He.ga K "Disk") F_Disk.fl F_Disk.put_waiting (tVar 0) (tLst tNil))
  (sFldZ (He.ga K "Disk") F_Disk.fl F_Disk.put_powered (tVar 0) (tC (.bl true)))))))
def t_Disk_is_on (K : PySem.W.Frag) : TS :=
  (tRet (tFldZ (He.ga K "Disk") F_Disk.fl F_Disk.f_powered (tVar 0)))
def t_Disk_losses (K : PySem.W.Frag) : TS :=
  (tRet (tFldZ (He.ga K "Disk") F_Disk.fl F_Disk.f_failures (tVar 0)))
def t_next (K : PySem.W.Frag) : TS :=
  (tSeq (tIfS (tAnd (tTest (tOp rEq (tOp (rIxL K) (tVar 0) (tC (.int 2))) (tC (.int 0)))) (tTest (tOp rLtI (tOp (rIxL K) (tVar 0) (tC (.int 1))) (tCB (rLenQ K) (tCons (tOp (rIxL K) (tVar 0) (tC (.int 0))) tNil))))) (tSeq (tAsg (tOp (rIxL K) (tOp (rIxL K) (tVar 0) (tC (.int 0))) (tOp (rIxL K) (tVar 0) (tC (.int 1)))) (gName 2))
  (tSeq (tAugS (tVar 0) (tC (.int 1)) (tC (.int 1)) (rIxL K) (ipI fun i j => i + j) rSetL)
  (tIfS (tTest (tOp rGeI (tVar 2) (tOp rPowI (tC (.int 10)) (tC (.int 18))))) (tAsg (tVar 2) (gSub (tVar 0) (tC (.int 2)) rSetL)) (tAsg (tOp rModI (tCB rInt1 (tCons (tOp rAddI (tOp rAddI (tOp rMulI (tOp (rIxL K) (tVar 0) (tC (.int 3))) (tC (.int 48271))) (tOp rModI (tCB rInt1 (tCons (tVar 2) tNil)) (tC (.int 2147483647)))) (tC (.int 7))) tNil)) (tC (.int 2147483647))) (gSub (tVar 0) (tC (.int 3)) rSetL))))) tNext)
  (tSeq (tIfS (tTest (tOp rGtI (tOp (rIxL K) (tVar 0) (tC (.int 2))) (tC (.int 0)))) (tSeq (tAsg (tOp rModI (tCB rInt1 (tCons (tOp (rIxL K) (tVar 0) (tC (.int 2))) tNil)) (tVar 1)) (gName 3))
  (tSeq (tAsg (tOp rFdvI (tOp (rIxL K) (tVar 0) (tC (.int 2))) (tVar 1)) (gSub (tVar 0) (tC (.int 2)) rSetL))
  (tRet (tVar 3)))) tNext)
  (tSeq (tAsg (tOp rModI (tCB rInt1 (tCons (tOp rAddI (tOp rMulI (tOp (rIxL K) (tVar 0) (tC (.int 3))) (tC (.int 69621))) (tC (.int 12345))) tNil)) (tC (.int 2147483647))) (gSub (tVar 0) (tC (.int 3)) rSetL))
  (tRet (tOp rModI (tCB rInt1 (tCons (tOp rFdvI (tOp (rIxL K) (tVar 0) (tC (.int 3))) (tC (.int 7))) tNil)) (tVar 1))))))
def t_same (K : PySem.W.Frag) (n : Nat) : TS :=
  (tSeq (tIfS (tTest (tOp rIsNo (tVar 1) (tC .non))) (tRet (tOp rIsNo (tVar 0) (tC .non))) tNext)
  (tSeq (tIfS (tB (tCB (rIsi K) (tCons (tVar 1) (tCons (tC (.ty "bool")) tNil)))) (tRet (tAndV (tCB (rIsi K) (tCons (tVar 0) (tCons (tC (.ty "bool")) tNil))) (tOp (rEqD K) (tVar 0) (tVar 1)))) tNext)
  (tSeq (tIfS (tB (tCB (rIsi K) (tCons (tVar 1) (tCons (tC (.ty "int")) tNil)))) (tRet (tAndV (tCB (rIsi K) (tCons (tVar 0) (tCons (tC (.ty "int")) tNil))) (tAndV (tNotV (tCB (rIsi K) (tCons (tVar 0) (tCons (tC (.ty "bool")) tNil)))) (tOp (rEqD K) (tVar 0) (tVar 1))))) tNext)
  (tSeq (tIfS (tB (tCB (rIsi K) (tCons (tVar 1) (tCons (tC (.ty "str")) tNil)))) (tRet (tAndV (tCB (rIsi K) (tCons (tVar 0) (tCons (tC (.ty "str")) tNil))) (tOp (rEqD K) (tVar 0) (tVar 1)))) tNext)
  (tSeq (tIfS (tAnd (tB (tCB (rIsi K) (tCons (tVar 1) (tCons (tC (.ty "tuple")) tNil)))) (tNot (tB (tCB (rIsi K) (tCons (tVar 0) (tCons (tC (.ty "tuple")) tNil)))))) (tRet (tC (.bl false))) tNext)
  (tSeq (tIfS (tAnd (tB (tCB (rIsi K) (tCons (tVar 1) (tCons (tC (.ty "list")) tNil)))) (tNot (tB (tCB (rIsi K) (tCons (tVar 0) (tCons (tC (.ty "list")) tNil)))))) (tRet (tC (.bl false))) tNext)
  (tSeq (tIfS (tTest (tOp rNe (tCB (rLenQ K) (tCons (tVar 0) tNil)) (tCB (rLenQ K) (tCons (tVar 1) tNil)))) (tRet (tC (.bl false))) tNext)
  (tSeq (tFor (iRng1 (tCons (tCB (rLenQ K) (tCons (tVar 1) tNil)) tNil)) (gName 2) (tIfS (tNot (tB (tCallZ (spSameI K n) (fun _ => E0) (tCons (tOp (rIx K) (tVar 0) (tVar 2)) (tCons (tOp (rIx K) (tVar 1) (tVar 2)) tNil))))) (tRet (tC (.bl false))) tNext))
  (tRet (tC (.bl true)))))))))))
def t_refused (K : PySem.W.Frag) : TS :=
  (tSeq (tTryAs K (.ref (He.ga K "AnswerError")) 1 (fun W => (tDrop (tMakeZ (He.ga K "Disk") (spDInit K) (WE W) (tCons (tVar 0) tNil)))) (fun a cls dd => (tRet (tAndV (tCB (rIsZ K a cls dd) (tCons (tVar 1) (tCons (tC (.ref (He.ga K "InvalidArgument"))) tNil))) (tCB (rIsZ K a cls dd) (tCons (tVar 1) (tCons (tC (.ty "ValueError")) tNil)))))) (fun _ _ _ _ => False))
  (tRet (tC (.bl false))))
def t_operate (K : PySem.W.Frag) : TS :=
  (tSeq (tIfS (tAnd (tB (tDGet (tVar 0) (tC (.str ("on" : Str))))) (tTest (tOp rEq (tDGet (tVar 0) (tC (.str ("left" : Str)))) (tC (.int 0))))) (tDrop (tBM K "dict" rDUpd (tVar 0) (tCons (tDisp (((tC (.str ("on" : Str))), (tC (.bl false))) :: (((tC (.str ("left" : Str))), (tC .non)) :: (((tC (.str ("losses" : Str))), (tOp rAddI (tDGet (tVar 0) (tC (.str ("losses" : Str)))) (tC (.int 1)))) :: [])))) tNil))) tNext)
  (tSeq (tIfS (tAnd (tB (tDGet (tVar 0) (tC (.str ("on" : Str))))) (tTest (tOp rNotNo (tDGet (tVar 0) (tC (.str ("left" : Str)))) (tC .non)))) (sDAug (tVar 0) (tC (.str ("left" : Str))) (tC (.int 1)) rSub) tNext)
  (tRet (tDGet (tVar 0) (tC (.str ("on" : Str)))))))
def t_write (K : PySem.W.Frag) : TS :=
  (tSeq (tAsg (tOp (rIxL K) (tLst (tCons (tC (.int 0)) (tCons (tC (.int 1)) (tCons (tOp rSubI (tDGet (tVar 1) (tC (.str ("size" : Str)))) (tC (.int 1))) (tCons (tCallZ (spNext K) (fun _ => E0) (tCons (tVar 0) (tCons (tDGet (tVar 1) (tC (.str ("size" : Str)))) tNil))) tNil))))) (tCallZ (spNext K) (fun _ => E0) (tCons (tVar 0) (tCons (tC (.int 4)) tNil)))) (gName 3))
  (tSeq (tAsg (tCallZ (spNext K) (fun _ => E0) (tCons (tVar 0) (tCons (tC (.int 256)) tNil))) (gName 4))
  (tSeq (tAsg (tLc (iRng1 (tCons (tC (.int 256)) tNil)) (gName 9) tYes (tOp rModI (tOp rAddI (tVar 4) (tOp rMulI (tC (.int 7)) (tVar 9))) (tC (.int 256))) [9]) (gName 5))
  (tSeq (tAsg (tCallZ (spOperate K) (fun _ => E0) (tCons (tVar 1) tNil)) (gName 6))
  (tSeq (tAsg (tCB (rListQ K) (tCons (tVar 5) tNil)) (gName 7))
  (tSeq (tTry K (.ref (He.ga K "PowerOff")) (fun W => (tAsg (tOp rIsNo (tMethZ (He.ga K "Disk") "write" (spDWrite K) (WE W) (tVar 2) (tCons (tVar 3) (tCons (tVar 7) tNil))) (tC .non)) (gName 8))) (fun a cls dd => (tRet (tNotV (tVar 6)))) (fun _ _ _ _ => False))
  (tSeq (tIfS (tTest (tOp (rNeD K) (tVar 7) (tVar 5))) (tRet (tC (.bl false))) tNext)
  (tSeq (tAsg (tOp rModI (tOp rAddI (tOp (rIxL K) (tVar 7) (tC (.int 0))) (tC (.int 1))) (tC (.int 256))) (gSub (tVar 7) (tC (.int 0)) rSetL))
  (tSeq (tDrop (tBM K "list" rAppend (tDGet (tVar 1) (tC (.str ("waiting" : Str)))) (tCons (tTup (tCons (tVar 3) (tCons (tVar 5) tNil))) tNil)))
  (tSeq (tAugS (tDGet (tVar 1) (tC (.str ("counts" : Str)))) (tC (.int 0)) (tC (.int 1)) (rIxL K) (ipI fun i j => i + j) rSetL)
  (tRet (tAndV (tVar 8) (tVar 6)))))))))))))
def t_sync (K : PySem.W.Frag) : TS :=
  (tSeq (tAsg (tCallZ (spOperate K) (fun _ => E0) (tCons (tVar 0) tNil)) (gName 2))
  (tSeq (tTry K (.ref (He.ga K "PowerOff")) (fun W => (tAsg (tOp rIsNo (tMethZ (He.ga K "Disk") "sync" (spDSync K) (WE W) (tVar 1) tNil) (tC .non)) (gName 3))) (fun a cls dd => (tRet (tNotV (tVar 2)))) (fun _ _ _ _ => False))
  (tSeq (tFor (iList K (tDGet (tVar 0) (tC (.str ("waiting" : Str))))) (gTup K 2 (gCons (gName 4) (gCons (gName 5) gNil))) (sDPut (tDGet (tVar 0) (tC (.str ("lasting" : Str)))) (tVar 4) (tVar 5)))
  (tSeq (sDPut (tVar 0) (tC (.str ("waiting" : Str))) (tLst tNil))
  (tSeq (tAugS (tDGet (tVar 0) (tC (.str ("counts" : Str)))) (tC (.int 1)) (tC (.int 1)) (rIxL K) (ipI fun i j => i + j) rSetL)
  (tRet (tAndV (tVar 3) (tVar 2))))))))
def t_fail (K : PySem.W.Frag) : TS :=
  (tSeq (tAsg (tCallZ (spNext K) (fun _ => E0) (tCons (tVar 0) (tCons (tC (.int 7)) tNil))) (gName 3))
  (tSeq (tTry K (.ref (He.ga K "PowerOff")) (fun W => (tAsg (tMethZ (He.ga K "Disk") "fail_after" (spDFail K) (WE W) (tVar 2) (tCons (tVar 3) tNil)) (gName 4))) (fun a cls dd => (tRet (tNotV (tDGet (tVar 1) (tC (.str ("on" : Str))))))) (fun _ _ _ _ => False))
  (tSeq (tIfS (tOr (tNot (tB (tDGet (tVar 1) (tC (.str ("on" : Str)))))) (tTest (tOp rNotNo (tVar 4) (tC .non)))) (tRet (tC (.bl false))) tNext)
  (tSeq (sDPut (tVar 1) (tC (.str ("left" : Str))) (tVar 3))
  (tRet (tC (.bl true)))))))
def t_power (K : PySem.W.Frag) : TS :=
  (tSeq (tAsg (tLc (iRng1 (tCons (tCallZ (spNext K) (fun _ => E0) (tCons (tVar 0) (tCons (tOp rAddI (tCB (rLenQ K) (tCons (tDGet (tVar 1) (tC (.str ("waiting" : Str)))) tNil)) (tC (.int 3))) tNil))) tNil)) (gName 3) tYes (tOp rEq (tCallZ (spNext K) (fun _ => E0) (tCons (tVar 0) (tCons (tC (.int 2)) tNil))) (tC (.int 1))) [3]) (gName 4))
  (tSeq (tAsg (tCB (rListQ K) (tCons (tVar 4) tNil)) (gName 5))
  (tSeq (tIfS (tOr (tTest (tOp rNotNo (tMethZ (He.ga K "Disk") "power" (spDPower K) (fun _ => E0) (tVar 2) (tCons (tVar 5) tNil)) (tC .non))) (tTest (tOp (rNeD K) (tVar 5) (tVar 4)))) (tRet (tC (.bl false))) tNext)
  (tSeq (sDAug (tVar 1) (tC (.str ("losses" : Str))) (tCB rInt1 (tCons (tDGet (tVar 1) (tC (.str ("on" : Str)))) tNil)) rAdd)
  (tSeq (tFor (iRng1 (tCons (tCB rMin2 (tCons (tCB (rLenQ K) (tCons (tVar 4) tNil)) (tCons (tCB (rLenQ K) (tCons (tDGet (tVar 1) (tC (.str ("waiting" : Str)))) tNil)) tNil))) tNil)) (gName 3) (tIfS (tB (tOp (rIxL K) (tVar 4) (tVar 3))) (sDPut (tDGet (tVar 1) (tC (.str ("lasting" : Str)))) (tOp (rIxT K) (tOp (rIxL K) (tDGet (tVar 1) (tC (.str ("waiting" : Str)))) (tVar 3)) (tC (.int 0))) (tOp (rIxT K) (tOp (rIxL K) (tDGet (tVar 1) (tC (.str ("waiting" : Str)))) (tVar 3)) (tC (.int 1)))) tNext))
  (tSeq (tDrop (tBM K "dict" rDUpd (tVar 1) (tCons (tDisp (((tC (.str ("waiting" : Str))), (tLst tNil)) :: (((tC (.str ("on" : Str))), (tC (.bl true))) :: (((tC (.str ("left" : Str))), (tC .non)) :: [])))) tNil)))
  (tRet (tC (.bl true)))))))))
def t_deed (K : PySem.W.Frag) : TS :=
  (tSeq (tAsg (tCallZ (spNext K) (fun _ => E0) (tCons (tVar 0) (tCons (tC (.int 11)) tNil))) (gName 3))
  (tSeq (tIfS (tTest (tOp rLtI (tVar 3) (tC (.int 6)))) (tRet (tCallZ (spWrite K) (fun _ => E0) (tCons (tVar 0) (tCons (tVar 1) (tCons (tVar 2) tNil))))) tNext)
  (tSeq (tIfS (tTest (tOp rLtI (tVar 3) (tC (.int 8)))) (tRet (tCallZ (spSync K) (fun _ => E0) (tCons (tVar 1) (tCons (tVar 2) tNil)))) tNext)
  (tSeq (tIfS (tTest (tOp rLtI (tVar 3) (tC (.int 10)))) (tRet (tCallZ (spFail K) (fun _ => E0) (tCons (tVar 0) (tCons (tVar 1) (tCons (tVar 2) tNil))))) tNext)
  (tRet (tCallZ (spPower K) (fun _ => E0) (tCons (tVar 0) (tCons (tVar 1) (tCons (tVar 2) tNil)))))))))
def t_sector (K : PySem.W.Frag) : TS :=
  (tSeq (tAsg (tDGet2 (tDGet (tVar 0) (tC (.str ("lasting" : Str)))) (tVar 1) (tOp rRep (tLst (tCons (tC (.int 0)) tNil)) (tC (.int 256)))) (gName 2))
  (tSeq (tFor (iList K (tDGet (tVar 0) (tC (.str ("waiting" : Str))))) (gTup K 2 (gCons (gName 3) (gCons (gName 4) gNil))) (tIfS (tTest (tOp rEq (tVar 3) (tVar 1))) (tAsg (tVar 4) (gName 2)) tNext))
  (tRet (tVar 2))))
def t_is_right (K : PySem.W.Frag) : TS :=
  (tSeq (tAsg (tLst (tCons (tMethZ (He.ga K "Disk") "size" (spDSize K) (fun _ => E0) (tVar 2) tNil) (tCons (tMethZ (He.ga K "Disk") "pending" (spDPending K) (fun _ => E0) (tVar 2) tNil) (tCons (tMethZ (He.ga K "Disk") "counts" (spDCounts K) (fun _ => E0) (tVar 2) tNil) (tCons (tMethZ (He.ga K "Disk") "is_on" (spDIsOn K) (fun _ => E0) (tVar 2) tNil) (tCons (tMethZ (He.ga K "Disk") "losses" (spDLosses K) (fun _ => E0) (tVar 2) tNil) tNil)))))) (gName 3))
  (tSeq (tAsg (tLst (tCons (tDGet (tVar 1) (tC (.str ("size" : Str)))) (tCons (tCB (rLenQ K) (tCons (tDGet (tVar 1) (tC (.str ("waiting" : Str)))) tNil)) (tCons (tCB (rTupQ K) (tCons (tDGet (tVar 1) (tC (.str ("counts" : Str)))) tNil)) (tCons (tDGet (tVar 1) (tC (.str ("on" : Str)))) (tCons (tDGet (tVar 1) (tC (.str ("losses" : Str)))) tNil)))))) (gName 4))
  (tSeq (tIfS (tOr (tNot (tB (tCallZ (spSame K 3) (fun _ => E0) (tCons (tVar 3) (tCons (tVar 4) tNil))))) (tAnd (tNot (tB (tDGet (tVar 1) (tC (.str ("on" : Str)))))) (tTest (tOp rNotB (tFldZ (He.ga K "Disk") F_Disk.fl F_Disk.f_in_use (tVar 2)) (tC (.bl false)))))) (tRet (tC (.bl false))) tNext)
  (tSeq (tFor (iList K (tOp rCat (tLc (iList K (tDGet (tVar 1) (tC (.str ("waiting" : Str))))) (gTup K 2 (gCons (gName 7) (gCons (gName 8) gNil))) tYes (tVar 7) [7, 8]) (tLst (tCons (tCallZ (spNext K) (fun _ => E0) (tCons (tVar 0) (tCons (tDGet (tVar 1) (tC (.str ("size" : Str)))) tNil))) (tCons (tC (.int 0)) (tCons (tC (.int 1)) tNil)))))) (gName 5) (tSeq (tAsg (tMethZ (He.ga K "Disk") "read" (spDRead K) (fun _ => E0) (tVar 2) (tCons (tVar 5) tNil)) (gName 6))
  (tSeq (tIfS (tNot (tB (tCallZ (spSame K 3) (fun _ => E0) (tCons (tVar 6) (tCons (tCallZ (spSector K) (fun _ => E0) (tCons (tVar 1) (tCons (tVar 5) tNil))) tNil))))) (tRet (tC (.bl false))) tNext)
  (tAsg (tC (.int 400)) (gSub (tVar 6) (tC (.int 5)) rSetL)))))
  (tRet (tC (.bl true)))))))
def t_law (K : PySem.W.Frag) : TS :=
  (tSeq (tAsg (tLst (tCons (tCB (rListQ K) (tCons (tVar 0) tNil)) (tCons (tC (.int 0)) (tCons (tC (.int 0)) (tCons (tC (.int 1)) tNil))))) (gName 1))
  (tSeq (tFor (iList K (tLst (tCons (tOp rSubI (tC (.int 99)) (tCallZ (spNext K) (fun _ => E0) (tCons (tVar 1) (tCons (tC (.int 120)) tNil)))) (tCons (tOp rAddI (tC (.int 601)) (tCallZ (spNext K) (fun _ => E0) (tCons (tVar 1) (tCons (tC (.int 70)) tNil)))) (tCons (tC (.bl true)) (tCons (tC (.str ("100" : Str))) (tCons (tC .non) (tCons (tLst (tCons (tC (.int 100)) tNil)) tNil)))))))) (gName 2) (tIfS (tNot (tB (tCallZ (spRefused K) (fun _ => E0) (tCons (tVar 2) tNil)))) (tRet (tC (.bl false))) tNext))
  (tSeq (tAsg (tOp (rIxL K) (tLst (tCons (tC (.int 100)) (tCons (tC (.int 101)) (tCons (tC (.int 600)) (tCons (tOp rAddI (tC (.int 100)) (tCallZ (spNext K) (fun _ => E0) (tCons (tVar 1) (tCons (tC (.int 501)) tNil)))) tNil))))) (tCallZ (spNext K) (fun _ => E0) (tCons (tVar 1) (tCons (tC (.int 4)) tNil)))) (gName 2))
  (tSeq (tAsg (tMakeZ (He.ga K "Disk") (spDInit K) (fun _ => E0) (tCons (tVar 2) tNil)) (gName 3))
  (tSeq (tAsg (tDisp (((tC (.str ("size" : Str))), (tVar 2)) :: (((tC (.str ("lasting" : Str))), tDNewK) :: (((tC (.str ("waiting" : Str))), (tLst tNil)) :: (((tC (.str ("on" : Str))), (tC (.bl true))) :: (((tC (.str ("left" : Str))), (tC .non)) :: (((tC (.str ("losses" : Str))), (tC (.int 0))) :: (((tC (.str ("counts" : Str))), (tLst (tCons (tC (.int 0)) (tCons (tC (.int 0)) tNil)))) :: [])))))))) (gName 4))
  (tSeq (tIfS (tTest (tOp rNotB (tFldZ (He.ga K "Disk") F_Disk.fl F_Disk.f_in_use (tVar 3)) (tC (.bl false)))) (tRet (tC (.bl false))) tNext)
  (tSeq (tFor (iRng1 (tCons (tCallZ (spNext K) (fun _ => E0) (tCons (tVar 1) (tCons (tC (.int 41)) tNil))) tNil)) (gName 5) (tIfS (tOr (tNot (tB (tCallZ (spRight K) (fun _ => E0) (tCons (tVar 1) (tCons (tVar 4) (tCons (tVar 3) tNil)))))) (tNot (tB (tCallZ (spDeed K) (fun _ => E0) (tCons (tVar 1) (tCons (tVar 4) (tCons (tVar 3) tNil))))))) (tRet (tC (.bl false))) tNext))
  (tSeq (tFor (iRng1 (tCons (tVar 2) tNil)) (gName 6) (tIfS (tTest (tOp (rNeD K) (tMethZ (He.ga K "Disk") "read" (spDRead K) (fun _ => E0) (tVar 3) (tCons (tVar 6) tNil)) (tCallZ (spSector K) (fun _ => E0) (tCons (tVar 4) (tCons (tVar 6) tNil))))) (tRet (tC (.bl false))) tNext))
  (tRet (tCallZ (spRight K) (fun _ => E0) (tCons (tVar 1) (tCons (tVar 4) (tCons (tVar 3) tNil)))))))))))))
theorem d_Disk_init {P : Program} {w : World} {K : PySem.W.Frag} {mg : Str → Option Value} {base : Heap} (T : Tx K mg) {cdv : Value} {A : Around} {outer : List Env} {s : Shared} {H : Hp} {E : XK} (hr : Room (0) (A.deeper (envOfC "Disk.__init__" (defScope s_Disk_init) s.heap.objs.size (He.fAd K ("Disk", some "__init__")) cdv))) :
    PSs (cxOf (L2.CX P w) P w K mg base ["self", "sectors", "_"] "Disk.__init__" (defScope s_Disk_init) (He.fAd K ("Disk", some "__init__")) cdv A outer s H E) (defBody s_Disk_init) (t_Disk_init K E) := by
  have nd : (["self", "sectors", "_"] : List Str).Nodup := sc_Disk_init.nd
  have hu := hu_of hr
  exact (pss_cons (ps_if (PW.pt (pw_or (pt_not (pt_val (pe_callB call_isi (by rfl) T.f_isinstance (by decide +kernel) (pa_cons (pv 1) (pa_cons (pe_bltn (v := .ty "int") (by rfl) T.f_int (by decide +kernel) rfl) pa_nil))))) (pw_or (pt_val (pe_callB call_isi (by rfl) T.f_isinstance (by decide +kernel) (pa_cons (pv 1) (pa_cons (pe_bltn (v := .ty "bool") (by rfl) T.f_bool (by decide +kernel) rfl) pa_nil)))) (pw_or1 (pt_not (pt_chain oLeI oLeI (pe_gi rfl T.i_FEWEST) (pv 1) (pe_gi rfl T.i_MOST))))))) (pss_one (ps_raise rfl (takes_of rfl rfl rfl rfl) (pmk_own PySem.F.excBase_ValueError (T.x_InvalidArgument).1 T.g_InvalidArgument (T.x_InvalidArgument).2.1 (raises_own (T.x_InvalidArgument).2.2.1 (T.x_InvalidArgument).2.2.2) (by rfl)))) pss_nil)
  (pss_cons (ps_fldi T.c_Disk T.n_Disk_in_use (pv 0) pe_bl)
  (pss_cons (ps_fldi T.c_Disk T.n_Disk_lasting (pv 0) (pe_lc (own := [("_", 2)]) (g := (gName 2)) (tt := tYes) rfl nd (pi_range1 (by rfl) T.f_range (pa_cons (pv 1) pa_nil)) (blkOk_by (N := ["self", "sectors", "_"]) (sc := defScope s_Disk_init) (by decide +kernel)) (fun _ _ _ _ _ => (pg_name (i := 2) nd rfl (Or.inl rfl))) (fun _ _ _ _ _ => pts_nil) (fun _ _ _ _ _ => (pe_op op_rep (pe_lst (pa_cons pe_int pa_nil)) (pe_gi rfl T.i_SECTOR)))))
  (pss_cons (ps_fldi T.c_Disk T.n_Disk_seen (pv 0) (pe_callTy cListQ (by rfl) T.f_list (by decide +kernel) (pa_cons (pe_fldI T.c_Disk T.n_Disk_lasting (pv 0)) pa_nil)))
  (pss_cons (ps_fldi T.c_Disk T.n_Disk_waiting (pv 0) (pe_lst pa_nil))
  (pss_cons (ps_fldi T.c_Disk T.n_Disk_powered (pv 0) pe_bl)
  (pss_cons (ps_fldi T.c_Disk T.n_Disk_left (pv 0) pe_non)
  (pss_cons (ps_fldi T.c_Disk T.n_Disk_failures (pv 0) pe_int)
  (pss_cons (ps_fldi T.c_Disk T.n_Disk_writes (pv 0) pe_int)
  (pss_one (ps_fldi T.c_Disk T.n_Disk_syncs (pv 0) pe_int)))))))))))
theorem d_Disk_size {P : Program} {w : World} {K : PySem.W.Frag} {mg : Str → Option Value} {base : Heap} (T : Tx K mg) {cdv : Value} {A : Around} {outer : List Env} {s : Shared} {H : Hp} {E : XK} (hr : Room (0) (A.deeper (envOfC "Disk.size" (defScope s_Disk_size) s.heap.objs.size (He.fAd K ("Disk", some "size")) cdv))) :
    PSs (cxOf CX0 P w K mg base ["self"] "Disk.size" (defScope s_Disk_size) (He.fAd K ("Disk", some "size")) cdv A outer s H E).nox (defBody s_Disk_size) (t_Disk_size K) := by
  have nd : (["self"] : List Str).Nodup := sc_Disk_size.nd
  have hu := hu_of hr
  exact (pss_one (ps_ret (pe_callB cLenQ (by rfl) T.f_len (by decide +kernel) (pa_cons (pe_fldz T.c_Disk T.n_Disk_lasting ok_Disk_lasting (pv 0)) pa_nil))))
theorem d_Disk_read {P : Program} {w : World} {K : PySem.W.Frag} {mg : Str → Option Value} {base : Heap} (T : Tx K mg) {cdv : Value} {A : Around} {outer : List Env} {s : Shared} {H : Hp} {E : XK} (hr : Room (0) (A.deeper (envOfC "Disk.read" (defScope s_Disk_read) s.heap.objs.size (He.fAd K ("Disk", some "read")) cdv))) :
    PSs (cxOf CX0 P w K mg base ["self", "index"] "Disk.read" (defScope s_Disk_read) (He.fAd K ("Disk", some "read")) cdv A outer s H E).nox (defBody s_Disk_read) (t_Disk_read K) := by
  have nd : (["self", "index"] : List Str).Nodup := sc_Disk_read.nd
  have hu := hu_of hr
  exact (pss_one (ps_ret (pe_callTy cListQ (by rfl) T.f_list (by decide +kernel) (pa_cons (pe_ix ix_list (pe_fldz T.c_Disk T.n_Disk_seen ok_Disk_seen (pv 0)) (pv 1) (fun _ _ => rfl)) pa_nil))))
theorem d_Disk_pending {P : Program} {w : World} {K : PySem.W.Frag} {mg : Str → Option Value} {base : Heap} (T : Tx K mg) {cdv : Value} {A : Around} {outer : List Env} {s : Shared} {H : Hp} {E : XK} (hr : Room (0) (A.deeper (envOfC "Disk.pending" (defScope s_Disk_pending) s.heap.objs.size (He.fAd K ("Disk", some "pending")) cdv))) :
    PSs (cxOf CX0 P w K mg base ["self"] "Disk.pending" (defScope s_Disk_pending) (He.fAd K ("Disk", some "pending")) cdv A outer s H E).nox (defBody s_Disk_pending) (t_Disk_pending K) := by
  have nd : (["self"] : List Str).Nodup := sc_Disk_pending.nd
  have hu := hu_of hr
  exact (pss_one (ps_ret (pe_callB cLenQ (by rfl) T.f_len (by decide +kernel) (pa_cons (pe_fldz T.c_Disk T.n_Disk_waiting ok_Disk_waiting (pv 0)) pa_nil))))
theorem d_Disk_counts {P : Program} {w : World} {K : PySem.W.Frag} {mg : Str → Option Value} {base : Heap} (T : Tx K mg) {cdv : Value} {A : Around} {outer : List Env} {s : Shared} {H : Hp} {E : XK} (hr : Room (0) (A.deeper (envOfC "Disk.counts" (defScope s_Disk_counts) s.heap.objs.size (He.fAd K ("Disk", some "counts")) cdv))) :
    PSs (cxOf CX0 P w K mg base ["self"] "Disk.counts" (defScope s_Disk_counts) (He.fAd K ("Disk", some "counts")) cdv A outer s H E).nox (defBody s_Disk_counts) (t_Disk_counts K) := by
  have nd : (["self"] : List Str).Nodup := sc_Disk_counts.nd
  have hu := hu_of hr
  exact (pss_one (ps_ret (pe_tup (pa_cons (pe_fldz T.c_Disk T.n_Disk_writes ok_Disk_writes (pv 0)) (pa_cons (pe_fldz T.c_Disk T.n_Disk_syncs ok_Disk_syncs (pv 0)) pa_nil)))))
theorem d_Disk_lose_power {P : Program} {w : World} {K : PySem.W.Frag} {mg : Str → Option Value} {base : Heap} (T : Tx K mg) {cdv : Value} {A : Around} {outer : List Env} {s : Shared} {H : Hp} {E : XK} (hr : Room (0) (A.deeper (envOfC "Disk.lose_power" (defScope s_Disk_lose_power) s.heap.objs.size (He.fAd K ("Disk", some "lose_power")) cdv))) :
    PSs (cxOf CX0 P w K mg base ["self"] "Disk.lose_power" (defScope s_Disk_lose_power) (He.fAd K ("Disk", some "lose_power")) cdv A outer s H E).nox (defBody s_Disk_lose_power) (t_Disk_lose_power K) := by
  have nd : (["self"] : List Str).Nodup := sc_Disk_lose_power.nd
  have hu := hu_of hr
  exact (pss_cons (ps_fldz T.c_Disk T.n_Disk_powered ok_Disk_powered (pv 0) pe_bl)
  (pss_cons (ps_fldz T.c_Disk T.n_Disk_in_use ok_Disk_in_use (pv 0) pe_bl)
  (pss_cons (ps_fldz T.c_Disk T.n_Disk_left ok_Disk_left (pv 0) pe_non)
  (pss_one (ps_fldaugz T.c_Disk T.n_Disk_failures ok_Disk_failures (pv 0) pe_int in_add)))))
theorem d_Disk_operate {P : Program} {w : World} {K : PySem.W.Frag} {mg : Str → Option Value} {base : Heap} (T : Tx K mg) (G_Disk_lose_power : Con P w K mg base CX0 1 ("Disk", some "lose_power") ["self"] (spDLose K)) {cdv : Value} {A : Around} {outer : List Env} {s : Shared} {H : Hp} {E : XK} (hr : Room (1) (A.deeper (envOfC "Disk.operate" (defScope s_Disk_operate) s.heap.objs.size (He.fAd K ("Disk", some "operate")) cdv))) :
    PSs (cxOf (L2.CX P w) P w K mg base ["self"] "Disk.operate" (defScope s_Disk_operate) (He.fAd K ("Disk", some "operate")) cdv A outer s H E) (defBody s_Disk_operate) (t_Disk_operate K E) := by
  have nd : (["self"] : List Str).Nodup := sc_Disk_operate.nd
  have hu := hu_of hr
  exact (pss_cons (ps_if (PW.pt (pw_and (pt_val (pe_fldz T.c_Disk T.n_Disk_powered ok_Disk_powered (pv 0))) (pw_and1 (pt_cmpR op_eq (pe_fldz T.c_Disk T.n_Disk_left ok_Disk_left (pv 0)) pe_int (nomark _))))) (pss_one (ps_expr (pe_mz0 G_Disk_lose_power (hr.mono (by decide)) T.c_Disk T.m_Disk_lose_power passN (pv 0)))) pss_nil)
  (pss_cons (ps_if (pt_not (pt_val (pe_fldz T.c_Disk T.n_Disk_powered ok_Disk_powered (pv 0)))) (pss_one (ps_raise rfl (takes_of rfl rfl rfl rfl) (pmk_own PySem.F.excBase_ValueError (T.x_PowerOff).1 T.g_PowerOff (T.x_PowerOff).2.1 (raises_own (T.x_PowerOff).2.2.1 (T.x_PowerOff).2.2.2) (by rfl)))) pss_nil)
  (pss_one (ps_if (pt_cmpR oNotNo (pe_fldz T.c_Disk T.n_Disk_left ok_Disk_left (pv 0)) pe_non (nomark _)) (pss_one (ps_fldz T.c_Disk T.n_Disk_left ok_Disk_left (pv 0) (pe_op oSubI (pe_fldz T.c_Disk T.n_Disk_left ok_Disk_left (pv 0)) pe_int))) pss_nil))))
theorem d_Disk_write {P : Program} {w : World} {K : PySem.W.Frag} {mg : Str → Option Value} {base : Heap} (T : Tx K mg) (G_Disk_operate : Con P w K mg base (L2.CX P w) 2 ("Disk", some "operate") ["self"] (spDOperate K)) {cdv : Value} {A : Around} {outer : List Env} {s : Shared} {H : Hp} {E : XK} (hr : Room (2) (A.deeper (envOfC "Disk.write" (defScope s_Disk_write) s.heap.objs.size (He.fAd K ("Disk", some "write")) cdv))) :
    PSs (cxOf (L2.CX P w) P w K mg base ["self", "index", "data"] "Disk.write" (defScope s_Disk_write) (He.fAd K ("Disk", some "write")) cdv A outer s H E) (defBody s_Disk_write) (t_Disk_write K E) := by
  have nd : (["self", "index", "data"] : List Str).Nodup := sc_Disk_write.nd
  have hu := hu_of hr
  exact (pss_cons (ps_expr (pe_mz0 G_Disk_operate (hr.mono (by decide)) T.c_Disk T.m_Disk_operate (passE (takes_of rfl rfl rfl rfl)) (pv 0)))
  (pss_cons (ps_asg (pe_callTy cListQ (by rfl) T.f_list (by decide +kernel) (pa_cons (pv 2) pa_nil)) (pg_sub (pe_fldz T.c_Disk T.n_Disk_seen ok_Disk_seen (pv 0)) (pv 1) set_list))
  (pss_cons (ps_expr (pe_bm PySem.F.plainAttrs_list PySem.F.slot_list_append PySem.F.type_list_append mt_append (pe_fldz T.c_Disk T.n_Disk_waiting ok_Disk_waiting (pv 0)) (pa_cons (pe_tup (pa_cons (pv 1) (pa_cons (pe_callTy cListQ (by rfl) T.f_list (by decide +kernel) (pa_cons (pv 2) pa_nil)) pa_nil))) pa_nil)))
  (pss_one (ps_fldaugz T.c_Disk T.n_Disk_writes ok_Disk_writes (pv 0) pe_int in_add)))))
theorem d_Disk_sync {P : Program} {w : World} {K : PySem.W.Frag} {mg : Str → Option Value} {base : Heap} (T : Tx K mg) (G_Disk_operate : Con P w K mg base (L2.CX P w) 2 ("Disk", some "operate") ["self"] (spDOperate K)) {cdv : Value} {A : Around} {outer : List Env} {s : Shared} {H : Hp} {E : XK} (hr : Room (2) (A.deeper (envOfC "Disk.sync" (defScope s_Disk_sync) s.heap.objs.size (He.fAd K ("Disk", some "sync")) cdv))) :
    PSs (cxOf (L2.CX P w) P w K mg base ["self"] "Disk.sync" (defScope s_Disk_sync) (He.fAd K ("Disk", some "sync")) cdv A outer s H E) (defBody s_Disk_sync) (t_Disk_sync K E) := by
  have nd : (["self"] : List Str).Nodup := sc_Disk_sync.nd
  have hu := hu_of hr
  exact (pss_cons (ps_expr (pe_mz0 G_Disk_operate (hr.mono (by decide)) T.c_Disk T.m_Disk_operate (passE (takes_of rfl rfl rfl rfl)) (pv 0)))
  (pss_cons (ps_fldz T.c_Disk T.n_Disk_lasting ok_Disk_lasting (pv 0) (pe_callTy cListQ (by rfl) T.f_list (by decide +kernel) (pa_cons (pe_fldz T.c_Disk T.n_Disk_seen ok_Disk_seen (pv 0)) pa_nil)))
  (pss_cons (ps_fldz T.c_Disk T.n_Disk_waiting ok_Disk_waiting (pv 0) (pe_lst pa_nil))
  (pss_one (ps_fldaugz T.c_Disk T.n_Disk_syncs ok_Disk_syncs (pv 0) pe_int in_add)))))
theorem d_Disk_fail_after {P : Program} {w : World} {K : PySem.W.Frag} {mg : Str → Option Value} {base : Heap} (T : Tx K mg) {cdv : Value} {A : Around} {outer : List Env} {s : Shared} {H : Hp} {E : XK} (hr : Room (0) (A.deeper (envOfC "Disk.fail_after" (defScope s_Disk_fail_after) s.heap.objs.size (He.fAd K ("Disk", some "fail_after")) cdv))) :
    PSs (cxOf (L2.CX P w) P w K mg base ["self", "operations"] "Disk.fail_after" (defScope s_Disk_fail_after) (He.fAd K ("Disk", some "fail_after")) cdv A outer s H E) (defBody s_Disk_fail_after) (t_Disk_fail_after K E) := by
  have nd : (["self", "operations"] : List Str).Nodup := sc_Disk_fail_after.nd
  have hu := hu_of hr
  exact (pss_cons (ps_if (pt_not (pt_val (pe_fldz T.c_Disk T.n_Disk_powered ok_Disk_powered (pv 0)))) (pss_one (ps_raise rfl (takes_of rfl rfl rfl rfl) (pmk_own PySem.F.excBase_ValueError (T.x_PowerOff).1 T.g_PowerOff (T.x_PowerOff).2.1 (raises_own (T.x_PowerOff).2.2.1 (T.x_PowerOff).2.2.2) (by rfl)))) pss_nil)
  (pss_one (ps_fldz T.c_Disk T.n_Disk_left ok_Disk_left (pv 0) (pv 1))))
theorem d_Disk_power {P : Program} {w : World} {K : PySem.W.Frag} {mg : Str → Option Value} {base : Heap} (T : Tx K mg) (G_Disk_lose_power : Con P w K mg base CX0 1 ("Disk", some "lose_power") ["self"] (spDLose K)) {cdv : Value} {A : Around} {outer : List Env} {s : Shared} {H : Hp} {E : XK} (hr : Room (1) (A.deeper (envOfC "Disk.power" (defScope s_Disk_power) s.heap.objs.size (He.fAd K ("Disk", some "power")) cdv))) :
    PSs (cxOf CX0 P w K mg base ["self", "kept", "arrives", "index", "data"] "Disk.power" (defScope s_Disk_power) (He.fAd K ("Disk", some "power")) cdv A outer s H E).nox (defBody s_Disk_power) (t_Disk_power K) := by
  have nd : (["self", "kept", "arrives", "index", "data"] : List Str).Nodup := sc_Disk_power.nd
  have hu := hu_of hr
  exact (pss_cons (ps_if (pt_val (pe_fldz T.c_Disk T.n_Disk_powered ok_Disk_powered (pv 0))) (pss_one (ps_expr (pe_mz0 G_Disk_lose_power (hr.mono (by decide)) T.c_Disk T.m_Disk_lose_power passN (pv 0)))) pss_nil)
  (pss_cons (ps_for PassesOwn.never rfl (pi_zip (by rfl) T.f_zip (pa_cons (pv 1) (pa_cons (pe_fldz T.c_Disk T.n_Disk_waiting ok_Disk_waiting (pv 0)) pa_nil))) (pg_tup rfl (pgs_cons (pg_name (i := 2) nd rfl (Or.inl rfl)) (pgs_cons (pg_tup rfl (pgs_cons (pg_name (i := 3) nd rfl (Or.inl rfl)) (pgs_cons (pg_name (i := 4) nd rfl (Or.inl rfl)) pgs_nil))) pgs_nil))) (pss_one (ps_if (pt_val (pv 2)) (pss_one (ps_asg (pv 4) (pg_sub (pe_fldz T.c_Disk T.n_Disk_lasting ok_Disk_lasting (pv 0)) (pv 3) set_list))) pss_nil)))
  (pss_cons (ps_fldz T.c_Disk T.n_Disk_seen ok_Disk_seen (pv 0) (pe_callTy cListQ (by rfl) T.f_list (by decide +kernel) (pa_cons (pe_fldz T.c_Disk T.n_Disk_lasting ok_Disk_lasting (pv 0)) pa_nil)))
  (pss_cons (ps_fldz T.c_Disk T.n_Disk_waiting ok_Disk_waiting (pv 0) (pe_lst pa_nil))
  (pss_one (ps_fldz T.c_Disk T.n_Disk_powered ok_Disk_powered (pv 0) pe_bl))))))
theorem d_Disk_is_on {P : Program} {w : World} {K : PySem.W.Frag} {mg : Str → Option Value} {base : Heap} (T : Tx K mg) {cdv : Value} {A : Around} {outer : List Env} {s : Shared} {H : Hp} {E : XK} (hr : Room (0) (A.deeper (envOfC "Disk.is_on" (defScope s_Disk_is_on) s.heap.objs.size (He.fAd K ("Disk", some "is_on")) cdv))) :
    PSs (cxOf CX0 P w K mg base ["self"] "Disk.is_on" (defScope s_Disk_is_on) (He.fAd K ("Disk", some "is_on")) cdv A outer s H E).nox (defBody s_Disk_is_on) (t_Disk_is_on K) := by
  have nd : (["self"] : List Str).Nodup := sc_Disk_is_on.nd
  have hu := hu_of hr
  exact (pss_one (ps_ret (pe_fldz T.c_Disk T.n_Disk_powered ok_Disk_powered (pv 0))))
theorem d_Disk_losses {P : Program} {w : World} {K : PySem.W.Frag} {mg : Str → Option Value} {base : Heap} (T : Tx K mg) {cdv : Value} {A : Around} {outer : List Env} {s : Shared} {H : Hp} {E : XK} (hr : Room (0) (A.deeper (envOfC "Disk.losses" (defScope s_Disk_losses) s.heap.objs.size (He.fAd K ("Disk", some "losses")) cdv))) :
    PSs (cxOf CX0 P w K mg base ["self"] "Disk.losses" (defScope s_Disk_losses) (He.fAd K ("Disk", some "losses")) cdv A outer s H E).nox (defBody s_Disk_losses) (t_Disk_losses K) := by
  have nd : (["self"] : List Str).Nodup := sc_Disk_losses.nd
  have hu := hu_of hr
  exact (pss_one (ps_ret (pe_fldz T.c_Disk T.n_Disk_failures ok_Disk_failures (pv 0))))
theorem d_next {P : Program} {w : World} {K : PySem.W.Frag} {mg : Str → Option Value} {base : Heap} (T : Tx K mg) {cdv : Value} {A : Around} {outer : List Env} {s : Shared} {H : Hp} {E : XK} (hr : Room (0) (A.deeper (envOfC "_law_next" (defScope s_next) s.heap.objs.size (He.fAd K ("_law_next", none)) cdv))) :
    PSs (cxOf CX0 P w K mg base ["_law_state", "_law_limit", "_law_cell", "_law_value"] "_law_next" (defScope s_next) (He.fAd K ("_law_next", none)) cdv A outer s H E).nox (defBody s_next) (t_next K) := by
  have nd : (["_law_state", "_law_limit", "_law_cell", "_law_value"] : List Str).Nodup := sc_next.nd
  have hu := hu_of hr
  exact (pss_cons (ps_if (PW.pt (pw_and (pt_cmpR op_eq (pe_ix ix_list (pv 0) pe_int (fun _ _ => rfl)) pe_int (nomark _)) (pw_and1 (pt_cmpR oLtI (pe_ix ix_list (pv 0) pe_int (fun _ _ => rfl)) (pe_callB cLenQ (by rfl) T.f_len (by decide +kernel) (pa_cons (pe_ix ix_list (pv 0) pe_int (fun _ _ => rfl)) pa_nil)) (nomark _))))) (pss_cons (ps_set (i := 2) nd rfl (Or.inl rfl) (pe_ix ix_list (pe_ix ix_list (pv 0) pe_int (fun _ _ => rfl)) (pe_ix ix_list (pv 0) pe_int (fun _ _ => rfl)) (fun _ _ => rfl)))
  (pss_cons (ps_augS (pv 0) pe_int get_list pe_int ip_add set_list)
  (pss_one (ps_if (pt_cmpR oGeI (pv 2) (pe_op oPowI pe_int pe_int) (nomark _)) (pss_one (ps_asg (pv 2) (pg_sub (pv 0) pe_int set_list))) (pss_one (ps_asg (pe_op oModI (pe_callTy cInt1 (by rfl) T.f_int (by decide +kernel) (pa_cons (pe_op oAddI (pe_op oAddI (pe_op oMulI (pe_ix ix_list (pv 0) pe_int (fun _ _ => rfl)) pe_int) (pe_op oModI (pe_callTy cInt1 (by rfl) T.f_int (by decide +kernel) (pa_cons (pv 2) pa_nil)) pe_int)) pe_int) pa_nil)) pe_int) (pg_sub (pv 0) pe_int set_list))))))) pss_nil)
  (pss_cons (ps_if (pt_cmpR oGtI (pe_ix ix_list (pv 0) pe_int (fun _ _ => rfl)) pe_int (nomark _)) (pss_cons (ps_set (i := 3) nd rfl (Or.inl rfl) (pe_op oModI (pe_callTy cInt1 (by rfl) T.f_int (by decide +kernel) (pa_cons (pe_ix ix_list (pv 0) pe_int (fun _ _ => rfl)) pa_nil)) (pv 1)))
  (pss_cons (ps_asg (pe_op oFdvI (pe_ix ix_list (pv 0) pe_int (fun _ _ => rfl)) (pv 1)) (pg_sub (pv 0) pe_int set_list))
  (pss_one (ps_ret (pv 3))))) pss_nil)
  (pss_cons (ps_asg (pe_op oModI (pe_callTy cInt1 (by rfl) T.f_int (by decide +kernel) (pa_cons (pe_op oAddI (pe_op oMulI (pe_ix ix_list (pv 0) pe_int (fun _ _ => rfl)) pe_int) pe_int) pa_nil)) pe_int) (pg_sub (pv 0) pe_int set_list))
  (pss_one (ps_ret (pe_op oModI (pe_callTy cInt1 (by rfl) T.f_int (by decide +kernel) (pa_cons (pe_op oFdvI (pe_ix ix_list (pv 0) pe_int (fun _ _ => rfl)) pe_int) pa_nil)) (pv 1)))))))
theorem d_same {P : Program} {w : World} {K : PySem.W.Frag} {mg : Str → Option Value} {base : Heap} (T : Tx K mg) (n : Nat) (G_same : Con P w K mg base CX0 n ("_law_same", none) ["_law_actual", "_law_expected"] (spSameI K n)) {cdv : Value} {A : Around} {outer : List Env} {s : Shared} {H : Hp} {E : XK} (hr : Room (n) (A.deeper (envOfC "_law_same" (defScope s_same) s.heap.objs.size (He.fAd K ("_law_same", none)) cdv))) :
    PSs (cxOf CX0 P w K mg base ["_law_actual", "_law_expected", "_law_k"] "_law_same" (defScope s_same) (He.fAd K ("_law_same", none)) cdv A outer s H E).nox (defBody s_same) (t_same K n) := by
  have nd : (["_law_actual", "_law_expected", "_law_k"] : List Str).Nodup := sc_same.nd
  have hu := hu_of hr
  exact (pss_cons (ps_if (pt_cmpR oIsNo (pv 1) pe_non (nomark _)) (pss_one (ps_ret (pe_cmpR oIsNo (pv 0) pe_non (nomark _)))) pss_nil)
  (pss_cons (ps_if (pt_val (pe_callB call_isi (by rfl) T.f_isinstance (by decide +kernel) (pa_cons (pv 1) (pa_cons (pe_bltn (v := .ty "bool") (by rfl) T.f_bool (by decide +kernel) rfl) pa_nil)))) (pss_one (ps_ret (pe_and (pe_callB call_isi (by rfl) T.f_isinstance (by decide +kernel) (pa_cons (pv 0) (pa_cons (pe_bltn (v := .ty "bool") (by rfl) T.f_bool (by decide +kernel) rfl) pa_nil))) (pe_one (pe_cmpR (op_eqD hr.units) (pv 0) (pv 1) (nomark _)))))) pss_nil)
  (pss_cons (ps_if (pt_val (pe_callB call_isi (by rfl) T.f_isinstance (by decide +kernel) (pa_cons (pv 1) (pa_cons (pe_bltn (v := .ty "int") (by rfl) T.f_int (by decide +kernel) rfl) pa_nil)))) (pss_one (ps_ret (pe_and (pe_callB call_isi (by rfl) T.f_isinstance (by decide +kernel) (pa_cons (pv 0) (pa_cons (pe_bltn (v := .ty "int") (by rfl) T.f_int (by decide +kernel) rfl) pa_nil))) (pe_and (pe_not (pe_callB call_isi (by rfl) T.f_isinstance (by decide +kernel) (pa_cons (pv 0) (pa_cons (pe_bltn (v := .ty "bool") (by rfl) T.f_bool (by decide +kernel) rfl) pa_nil)))) (pe_one (pe_cmpR (op_eqD hr.units) (pv 0) (pv 1) (nomark _))))))) pss_nil)
  (pss_cons (ps_if (pt_val (pe_callB call_isi (by rfl) T.f_isinstance (by decide +kernel) (pa_cons (pv 1) (pa_cons (pe_bltn (v := .ty "str") (by rfl) T.f_str (by decide +kernel) rfl) pa_nil)))) (pss_one (ps_ret (pe_and (pe_callB call_isi (by rfl) T.f_isinstance (by decide +kernel) (pa_cons (pv 0) (pa_cons (pe_bltn (v := .ty "str") (by rfl) T.f_str (by decide +kernel) rfl) pa_nil))) (pe_one (pe_cmpR (op_eqD hr.units) (pv 0) (pv 1) (nomark _)))))) pss_nil)
  (pss_cons (ps_if (PW.pt (pw_and (pt_val (pe_callB call_isi (by rfl) T.f_isinstance (by decide +kernel) (pa_cons (pv 1) (pa_cons (pe_bltn (v := .ty "tuple") (by rfl) T.f_tuple (by decide +kernel) rfl) pa_nil)))) (pw_and1 (pt_not (pt_val (pe_callB call_isi (by rfl) T.f_isinstance (by decide +kernel) (pa_cons (pv 0) (pa_cons (pe_bltn (v := .ty "tuple") (by rfl) T.f_tuple (by decide +kernel) rfl) pa_nil)))))))) (pss_one (ps_ret pe_bl)) pss_nil)
  (pss_cons (ps_if (PW.pt (pw_and (pt_val (pe_callB call_isi (by rfl) T.f_isinstance (by decide +kernel) (pa_cons (pv 1) (pa_cons (pe_bltn (v := .ty "list") (by rfl) T.f_list (by decide +kernel) rfl) pa_nil)))) (pw_and1 (pt_not (pt_val (pe_callB call_isi (by rfl) T.f_isinstance (by decide +kernel) (pa_cons (pv 0) (pa_cons (pe_bltn (v := .ty "list") (by rfl) T.f_list (by decide +kernel) rfl) pa_nil)))))))) (pss_one (ps_ret pe_bl)) pss_nil)
  (pss_cons (ps_if (pt_cmpR op_ne (pe_callB cLenQ (by rfl) T.f_len (by decide +kernel) (pa_cons (pv 0) pa_nil)) (pe_callB cLenQ (by rfl) T.f_len (by decide +kernel) (pa_cons (pv 1) pa_nil)) (nomark _)) (pss_one (ps_ret pe_bl)) pss_nil)
  (pss_cons (ps_for PassesOwn.never rfl (pi_range1 (by rfl) T.f_range (pa_cons (pe_callB cLenQ (by rfl) T.f_len (by decide +kernel) (pa_cons (pv 1) pa_nil)) pa_nil)) (pg_name (i := 2) nd rfl (Or.inl rfl)) (pss_one (ps_if (pt_not (pt_val (pe_fz G_same hr (by rfl) T.g_same passN (pa_cons (pe_ix ix_seq (pv 0) (pv 2) (fun _ _ => rfl)) (pa_cons (pe_ix ix_seq (pv 1) (pv 2) (fun _ _ => rfl)) pa_nil))))) (pss_one (ps_ret pe_bl)) pss_nil)))
  (pss_one (ps_ret pe_bl))))))))))
theorem d_refused {P : Program} {w : World} {K : PySem.W.Frag} {mg : Str → Option Value} {base : Heap} (T : Tx K mg) (G_Disk_init : Con P w K mg base (L2.CX P w) 1 ("Disk", some "__init__") ["self", "sectors"] (spDInit K)) {cdv : Value} {A : Around} {outer : List Env} {s : Shared} {H : Hp} {E : XK} (hr : Room (2) (A.deeper (envOfC "_law_refused" (defScope s_refused) s.heap.objs.size (He.fAd K ("_law_refused", none)) cdv))) :
    PSs (cxOf CX0 P w K mg base ["_law_size", "e"] "_law_refused" (defScope s_refused) (He.fAd K ("_law_refused", none)) cdv A outer s H E).nox (defBody s_refused) (t_refused K) := by
  have nd : (["_law_size", "e"] : List Str).Nodup := sc_refused.nd
  have hu := hu_of hr
  exact (pss_cons (ps_try_as (i := 1) (c := .ref (He.ga K "AnswerError")) (tb := (fun W => (tDrop (tMakeZ (He.ga K "Disk") (spDInit K) (WE W) (tCons (tVar 0) tNil))))) (ts := (fun a cls dd => (tRet (tAndV (tCB (rIsZ K a cls dd) (tCons (tVar 1) (tCons (tC (.ref (He.ga K "InvalidArgument"))) tNil))) (tCB (rIsZ K a cls dd) (tCons (tVar 1) (tCons (tC (.ty "ValueError")) tNil))))))) (Wout := (fun _ _ _ _ => False)) rfl rfl nd rfl rfl ⟨rfl, by decide, .inl T.g_AnswerError⟩ takes0 (fun W pn xe tk po => (pss_one (ps_expr (pe_kz G_Disk_init T.k_Disk (hr.mono (by decide)) (by rfl) T.g_Disk (passW tk) (pa_cons (pv 0) pa_nil))))) (fun a oe cls dd pn hz hf => (pss_one (ps_ret (pe_and (pe_callB (call_isZ hz hf) (by rfl) T.f_isinstance (by decide +kernel) (pa_cons (pv 1) (pa_cons (pe_glob rfl T.g_InvalidArgument rfl) pa_nil))) (pe_one (pe_callB (call_isZ hz hf) (by rfl) T.f_isinstance (by decide +kernel) (pa_cons (pv 1) (pa_cons (pe_bltn (v := .ty "ValueError") (by rfl) T.f_ValueError (by decide +kernel) rfl) pa_nil)))))))))
  (pss_one (ps_ret pe_bl)))
theorem d_operate {P : Program} {w : World} {K : PySem.W.Frag} {mg : Str → Option Value} {base : Heap} (T : Tx K mg) {cdv : Value} {A : Around} {outer : List Env} {s : Shared} {H : Hp} {E : XK} (hr : Room (0) (A.deeper (envOfC "_law_operate" (defScope s_operate) s.heap.objs.size (He.fAd K ("_law_operate", none)) cdv))) :
    PSs (cxOf CX0 P w K mg base ["_law_world"] "_law_operate" (defScope s_operate) (He.fAd K ("_law_operate", none)) cdv A outer s H E).nox (defBody s_operate) (t_operate K) := by
  have nd : (["_law_world"] : List Str).Nodup := sc_operate.nd
  have hu := hu_of hr
  exact (pss_cons (ps_if (PW.pt (pw_and (pt_val (pe_dget hu (pv 0) pe_str (fun _ _ => rfl))) (pw_and1 (pt_cmpR op_eq (pe_dget hu (pv 0) pe_str (fun _ _ => rfl)) pe_int (nomark _))))) (pss_one (ps_expr (pe_bm PySem.F.plainAttrs_dict PySem.F.slot_dict_update PySem.F.type_dict_update mt_dupd (pv 0) (pa_cons (pe_disp (pps_cons pe_str pe_bl (pps_cons pe_str pe_non (pps_cons pe_str (pe_op oAddI (pe_dget hu (pv 0) pe_str (fun _ _ => rfl)) pe_int) pps_nil))) (by rfl) (by rfl) (fun z => by cases z) (by decide)) pa_nil)))) pss_nil)
  (pss_cons (ps_if (PW.pt (pw_and (pt_val (pe_dget hu (pv 0) pe_str (fun _ _ => rfl))) (pw_and1 (pt_cmpR oNotNo (pe_dget hu (pv 0) pe_str (fun _ _ => rfl)) pe_non (nomark _))))) (pss_one (ps_daug hu (pv 0) pe_str pe_int in_sub (fun _ _ _ => rfl))) pss_nil)
  (pss_one (ps_ret (pe_dget hu (pv 0) pe_str (fun _ _ => rfl))))))
theorem d_write {P : Program} {w : World} {K : PySem.W.Frag} {mg : Str → Option Value} {base : Heap} (T : Tx K mg) (G_next : Con P w K mg base CX0 1 ("_law_next", none) ["_law_state", "_law_limit"] (spNext K)) (G_operate : Con P w K mg base CX0 1 ("_law_operate", none) ["_law_world"] (spOperate K)) (G_Disk_write : Con P w K mg base (L2.CX P w) 3 ("Disk", some "write") ["self", "index", "data"] (spDWrite K)) {cdv : Value} {A : Around} {outer : List Env} {s : Shared} {H : Hp} {E : XK} (hr : Room (3) (A.deeper (envOfC "_law_write" (defScope s_write) s.heap.objs.size (He.fAd K ("_law_write", none)) cdv))) :
    PSs (cxOf CX0 P w K mg base ["_law_state", "_law_world", "_law_disk", "_law_index", "_law_start", "_law_data", "_law_due", "_law_passed", "_law_done", "_law_k"] "_law_write" (defScope s_write) (He.fAd K ("_law_write", none)) cdv A outer s H E).nox (defBody s_write) (t_write K) := by
  have nd : (["_law_state", "_law_world", "_law_disk", "_law_index", "_law_start", "_law_data", "_law_due", "_law_passed", "_law_done", "_law_k"] : List Str).Nodup := sc_write.nd
  have hu := hu_of hr
  exact (pss_cons (ps_set (i := 3) nd rfl (Or.inl rfl) (pe_ix ix_list (pe_lst (pa_cons pe_int (pa_cons pe_int (pa_cons (pe_op oSubI (pe_dget hu (pv 1) pe_str (fun _ _ => rfl)) pe_int) (pa_cons (pe_fz G_next (hr.mono (by decide)) (by rfl) T.g_next passN (pa_cons (pv 0) (pa_cons (pe_dget hu (pv 1) pe_str (fun _ _ => rfl)) pa_nil))) pa_nil))))) (pe_fz G_next (hr.mono (by decide)) (by rfl) T.g_next passN (pa_cons (pv 0) (pa_cons pe_int pa_nil))) (fun _ _ => rfl)))
  (pss_cons (ps_set (i := 4) nd rfl (Or.inr rfl) (pe_fz G_next (hr.mono (by decide)) (by rfl) T.g_next passN (pa_cons (pv 0) (pa_cons pe_int pa_nil))))
  (pss_cons (ps_setLc (i := 5) (own := [("_law_k", 9)]) (g := (gName 9)) (tt := tYes) rfl nd rfl rfl (sw_true rfl rfl rfl (by decide +kernel)) (pi_range1 (by rfl) T.f_range (pa_cons pe_int pa_nil)) (blkOk_by (N := ["_law_state", "_law_world", "_law_disk", "_law_index", "_law_start", "_law_data", "_law_due", "_law_passed", "_law_done", "_law_k"]) (sc := defScope s_write) (by decide +kernel)) (fun _ _ _ _ _ => (pg_name (i := 9) nd rfl (Or.inl rfl))) (fun _ _ _ _ _ => pts_nil) (fun _ _ _ _ _ => (pe_op oModI (pe_op oAddI (pv 4) (pe_op oMulI pe_int (pv 9))) pe_int)))
  (pss_cons (ps_set (i := 6) nd rfl (Or.inl rfl) (pe_fz G_operate (hr.mono (by decide)) (by rfl) T.g_operate passN (pa_cons (pv 1) pa_nil)))
  (pss_cons (ps_set (i := 7) nd rfl (Or.inl rfl) (pe_callTy cListQ (by rfl) T.f_list (by decide +kernel) (pa_cons (pv 5) pa_nil)))
  (pss_cons (ps_try_only (c := .ref (He.ga K "PowerOff")) (tb := (fun W => (tAsg (tOp rIsNo (tMethZ (He.ga K "Disk") "write" (spDWrite K) (WE W) (tVar 2) (tCons (tVar 3) (tCons (tVar 7) tNil))) (tC .non)) (gName 8)))) (ts := (fun a cls dd => (tRet (tNotV (tVar 6))))) (Wout := (fun _ _ _ _ => False)) rfl rfl ⟨rfl, by decide, .inl T.g_PowerOff⟩ takes0 (fun W pn xe tk po => (pss_one (ps_set (i := 8) nd rfl (Or.inl rfl) (pe_cmpR oIsNo (pe_mz G_Disk_write (hr.mono (by decide)) T.c_Disk T.m_Disk_write (passW tk) (pv 2) (pa_cons (pv 3) (pa_cons (pv 7) pa_nil))) pe_non (nomark _))))) (fun a oe cls dd pn hz hf => (pss_one (ps_ret (pe_not (pv 6))))))
  (pss_cons (ps_if (pt_cmpR (op_neD hr.units) (pv 7) (pv 5) (nomark _)) (pss_one (ps_ret pe_bl)) pss_nil)
  (pss_cons (ps_asg (pe_op oModI (pe_op oAddI (pe_ix ix_list (pv 7) pe_int (fun _ _ => rfl)) pe_int) pe_int) (pg_sub (pv 7) pe_int set_list))
  (pss_cons (ps_expr (pe_bm PySem.F.plainAttrs_list PySem.F.slot_list_append PySem.F.type_list_append mt_append (pe_dget hu (pv 1) pe_str (fun _ _ => rfl)) (pa_cons (pe_tup (pa_cons (pv 3) (pa_cons (pv 5) pa_nil))) pa_nil)))
  (pss_cons (ps_augS (pe_dget hu (pv 1) pe_str (fun _ _ => rfl)) pe_int get_list pe_int ip_add set_list)
  (pss_one (ps_ret (pe_and (pv 8) (pe_one (pv 6)))))))))))))))
theorem d_sync {P : Program} {w : World} {K : PySem.W.Frag} {mg : Str → Option Value} {base : Heap} (T : Tx K mg) (G_operate : Con P w K mg base CX0 1 ("_law_operate", none) ["_law_world"] (spOperate K)) (G_Disk_sync : Con P w K mg base (L2.CX P w) 3 ("Disk", some "sync") ["self"] (spDSync K)) {cdv : Value} {A : Around} {outer : List Env} {s : Shared} {H : Hp} {E : XK} (hr : Room (3) (A.deeper (envOfC "_law_sync" (defScope s_sync) s.heap.objs.size (He.fAd K ("_law_sync", none)) cdv))) :
    PSs (cxOf CX0 P w K mg base ["_law_world", "_law_disk", "_law_due", "_law_done", "_law_index", "_law_data"] "_law_sync" (defScope s_sync) (He.fAd K ("_law_sync", none)) cdv A outer s H E).nox (defBody s_sync) (t_sync K) := by
  have nd : (["_law_world", "_law_disk", "_law_due", "_law_done", "_law_index", "_law_data"] : List Str).Nodup := sc_sync.nd
  have hu := hu_of hr
  exact (pss_cons (ps_set (i := 2) nd rfl (Or.inl rfl) (pe_fz G_operate (hr.mono (by decide)) (by rfl) T.g_operate passN (pa_cons (pv 0) pa_nil)))
  (pss_cons (ps_try_only (c := .ref (He.ga K "PowerOff")) (tb := (fun W => (tAsg (tOp rIsNo (tMethZ (He.ga K "Disk") "sync" (spDSync K) (WE W) (tVar 1) tNil) (tC .non)) (gName 3)))) (ts := (fun a cls dd => (tRet (tNotV (tVar 2))))) (Wout := (fun _ _ _ _ => False)) rfl rfl ⟨rfl, by decide, .inl T.g_PowerOff⟩ takes0 (fun W pn xe tk po => (pss_one (ps_set (i := 3) nd rfl (Or.inl rfl) (pe_cmpR oIsNo (pe_mz0 G_Disk_sync (hr.mono (by decide)) T.c_Disk T.m_Disk_sync (passW tk) (pv 1)) pe_non (nomark _))))) (fun a oe cls dd pn hz hf => (pss_one (ps_ret (pe_not (pv 2))))))
  (pss_cons (ps_for PassesOwn.never rfl (pi_list (pe_dget hu (pv 0) pe_str (fun _ _ => rfl))) (pg_tup rfl (pgs_cons (pg_name (i := 4) nd rfl (Or.inl rfl)) (pgs_cons (pg_name (i := 5) nd rfl (Or.inl rfl)) pgs_nil))) (pss_one (ps_dput hu (pe_dget hu (pv 0) pe_str (fun _ _ => rfl)) (pv 4) (pv 5) rfl)))
  (pss_cons (ps_dput hu (pv 0) pe_str (pe_lst pa_nil) rfl)
  (pss_cons (ps_augS (pe_dget hu (pv 0) pe_str (fun _ _ => rfl)) pe_int get_list pe_int ip_add set_list)
  (pss_one (ps_ret (pe_and (pv 3) (pe_one (pv 2))))))))))
theorem d_fail {P : Program} {w : World} {K : PySem.W.Frag} {mg : Str → Option Value} {base : Heap} (T : Tx K mg) (G_next : Con P w K mg base CX0 1 ("_law_next", none) ["_law_state", "_law_limit"] (spNext K)) (G_Disk_fail_after : Con P w K mg base (L2.CX P w) 1 ("Disk", some "fail_after") ["self", "operations"] (spDFail K)) {cdv : Value} {A : Around} {outer : List Env} {s : Shared} {H : Hp} {E : XK} (hr : Room (1) (A.deeper (envOfC "_law_fail" (defScope s_fail) s.heap.objs.size (He.fAd K ("_law_fail", none)) cdv))) :
    PSs (cxOf CX0 P w K mg base ["_law_state", "_law_world", "_law_disk", "_law_number", "_law_told"] "_law_fail" (defScope s_fail) (He.fAd K ("_law_fail", none)) cdv A outer s H E).nox (defBody s_fail) (t_fail K) := by
  have nd : (["_law_state", "_law_world", "_law_disk", "_law_number", "_law_told"] : List Str).Nodup := sc_fail.nd
  have hu := hu_of hr
  exact (pss_cons (ps_set (i := 3) nd rfl (Or.inl rfl) (pe_fz G_next (hr.mono (by decide)) (by rfl) T.g_next passN (pa_cons (pv 0) (pa_cons pe_int pa_nil))))
  (pss_cons (ps_try_only (c := .ref (He.ga K "PowerOff")) (tb := (fun W => (tAsg (tMethZ (He.ga K "Disk") "fail_after" (spDFail K) (WE W) (tVar 2) (tCons (tVar 3) tNil)) (gName 4)))) (ts := (fun a cls dd => (tRet (tNotV (tDGet (tVar 1) (tC (.str ("on" : Str)))))))) (Wout := (fun _ _ _ _ => False)) rfl rfl ⟨rfl, by decide, .inl T.g_PowerOff⟩ takes0 (fun W pn xe tk po => (pss_one (ps_set (i := 4) nd rfl (Or.inl rfl) (pe_mz G_Disk_fail_after (hr.mono (by decide)) T.c_Disk T.m_Disk_fail_after (passW tk) (pv 2) (pa_cons (pv 3) pa_nil))))) (fun a oe cls dd pn hz hf => (pss_one (ps_ret (pe_not (pe_dget hu (pv 1) pe_str (fun _ _ => rfl)))))))
  (pss_cons (ps_if (PW.pt (pw_or (pt_not (pt_val (pe_dget hu (pv 1) pe_str (fun _ _ => rfl)))) (pw_or1 (pt_cmpR oNotNo (pv 4) pe_non (nomark _))))) (pss_one (ps_ret pe_bl)) pss_nil)
  (pss_cons (ps_dput hu (pv 1) pe_str (pv 3) rfl)
  (pss_one (ps_ret pe_bl))))))
theorem d_power {P : Program} {w : World} {K : PySem.W.Frag} {mg : Str → Option Value} {base : Heap} (T : Tx K mg) (G_next : Con P w K mg base CX0 1 ("_law_next", none) ["_law_state", "_law_limit"] (spNext K)) (G_Disk_power : Con P w K mg base CX0 2 ("Disk", some "power") ["self", "kept"] (spDPower K)) {cdv : Value} {A : Around} {outer : List Env} {s : Shared} {H : Hp} {E : XK} (hr : Room (2) (A.deeper (envOfC "_law_power" (defScope s_power) s.heap.objs.size (He.fAd K ("_law_power", none)) cdv))) :
    PSs (cxOf CX0 P w K mg base ["_law_state", "_law_world", "_law_disk", "_law_k", "_law_kept", "_law_passed"] "_law_power" (defScope s_power) (He.fAd K ("_law_power", none)) cdv A outer s H E).nox (defBody s_power) (t_power K) := by
  have nd : (["_law_state", "_law_world", "_law_disk", "_law_k", "_law_kept", "_law_passed"] : List Str).Nodup := sc_power.nd
  have hu := hu_of hr
  exact (pss_cons (ps_setLc (i := 4) (own := [("_law_k", 3)]) (g := (gName 3)) (tt := tYes) rfl nd rfl rfl (sw_true rfl rfl rfl (by decide +kernel)) (pi_range1 (by rfl) T.f_range (pa_cons (pe_fz G_next (hr.mono (by decide)) (by rfl) T.g_next passN (pa_cons (pv 0) (pa_cons (pe_op oAddI (pe_callB cLenQ (by rfl) T.f_len (by decide +kernel) (pa_cons (pe_dget hu (pv 1) pe_str (fun _ _ => rfl)) pa_nil)) pe_int) pa_nil))) pa_nil)) (blkOk_by (N := ["_law_state", "_law_world", "_law_disk", "_law_k", "_law_kept", "_law_passed"]) (sc := defScope s_power) (by decide +kernel)) (fun _ _ _ _ _ => (pg_name (i := 3) nd rfl (Or.inl rfl))) (fun _ _ _ _ _ => pts_nil) (fun _ _ _ _ _ => (pe_cmpR op_eq (pe_fz G_next (hr.mono (by decide)) (by rfl) T.g_next passN (pa_cons (pv 0) (pa_cons pe_int pa_nil))) pe_int (nomark _))))
  (pss_cons (ps_set (i := 5) nd rfl (Or.inl rfl) (pe_callTy cListQ (by rfl) T.f_list (by decide +kernel) (pa_cons (pv 4) pa_nil)))
  (pss_cons (ps_if (PW.pt (pw_or (pt_cmpR oNotNo (pe_mz G_Disk_power (hr.mono (by decide)) T.c_Disk T.m_Disk_power passN (pv 2) (pa_cons (pv 5) pa_nil)) pe_non (nomark _)) (pw_or1 (pt_cmpR (op_neD hr.units) (pv 5) (pv 4) (nomark _))))) (pss_one (ps_ret pe_bl)) pss_nil)
  (pss_cons (ps_daug hu (pv 1) pe_str (pe_callTy cInt1 (by rfl) T.f_int (by decide +kernel) (pa_cons (pe_dget hu (pv 1) pe_str (fun _ _ => rfl)) pa_nil)) in_add (fun _ _ _ => rfl))
  (pss_cons (ps_for PassesOwn.never rfl (pi_range1 (by rfl) T.f_range (pa_cons (pe_callB (cMin2 rfl) (by rfl) T.f_min (by decide +kernel) (pa_cons (pe_callB cLenQ (by rfl) T.f_len (by decide +kernel) (pa_cons (pv 4) pa_nil)) (pa_cons (pe_callB cLenQ (by rfl) T.f_len (by decide +kernel) (pa_cons (pe_dget hu (pv 1) pe_str (fun _ _ => rfl)) pa_nil)) pa_nil))) pa_nil)) (pg_name (i := 3) nd rfl (Or.inl rfl)) (pss_one (ps_if (pt_val (pe_ix ix_list (pv 4) (pv 3) (fun _ _ => rfl))) (pss_one (ps_dput hu (pe_dget hu (pv 1) pe_str (fun _ _ => rfl)) (pe_ix ix_tup (pe_ix ix_list (pe_dget hu (pv 1) pe_str (fun _ _ => rfl)) (pv 3) (fun _ _ => rfl)) pe_int (fun _ _ => rfl)) (pe_ix ix_tup (pe_ix ix_list (pe_dget hu (pv 1) pe_str (fun _ _ => rfl)) (pv 3) (fun _ _ => rfl)) pe_int (fun _ _ => rfl)) rfl)) pss_nil)))
  (pss_cons (ps_expr (pe_bm PySem.F.plainAttrs_dict PySem.F.slot_dict_update PySem.F.type_dict_update mt_dupd (pv 1) (pa_cons (pe_disp (pps_cons pe_str (pe_lst pa_nil) (pps_cons pe_str pe_bl (pps_cons pe_str pe_non pps_nil))) (by rfl) (by rfl) (fun z => by cases z) (by decide)) pa_nil)))
  (pss_one (ps_ret pe_bl))))))))
theorem d_deed {P : Program} {w : World} {K : PySem.W.Frag} {mg : Str → Option Value} {base : Heap} (T : Tx K mg) (G_next : Con P w K mg base CX0 1 ("_law_next", none) ["_law_state", "_law_limit"] (spNext K)) (G_write : Con P w K mg base CX0 4 ("_law_write", none) ["_law_state", "_law_world", "_law_disk"] (spWrite K)) (G_sync : Con P w K mg base CX0 4 ("_law_sync", none) ["_law_world", "_law_disk"] (spSync K)) (G_fail : Con P w K mg base CX0 2 ("_law_fail", none) ["_law_state", "_law_world", "_law_disk"] (spFail K)) (G_power : Con P w K mg base CX0 3 ("_law_power", none) ["_law_state", "_law_world", "_law_disk"] (spPower K)) {cdv : Value} {A : Around} {outer : List Env} {s : Shared} {H : Hp} {E : XK} (hr : Room (4) (A.deeper (envOfC "_law_deed" (defScope s_deed) s.heap.objs.size (He.fAd K ("_law_deed", none)) cdv))) :
    PSs (cxOf CX0 P w K mg base ["_law_state", "_law_world", "_law_disk", "_law_pick"] "_law_deed" (defScope s_deed) (He.fAd K ("_law_deed", none)) cdv A outer s H E).nox (defBody s_deed) (t_deed K) := by
  have nd : (["_law_state", "_law_world", "_law_disk", "_law_pick"] : List Str).Nodup := sc_deed.nd
  have hu := hu_of hr
  exact (pss_cons (ps_set (i := 3) nd rfl (Or.inl rfl) (pe_fz G_next (hr.mono (by decide)) (by rfl) T.g_next passN (pa_cons (pv 0) (pa_cons pe_int pa_nil))))
  (pss_cons (ps_if (pt_cmpR oLtI (pv 3) pe_int (nomark _)) (pss_one (ps_ret (pe_fz G_write (hr.mono (by decide)) (by rfl) T.g_write passN (pa_cons (pv 0) (pa_cons (pv 1) (pa_cons (pv 2) pa_nil)))))) pss_nil)
  (pss_cons (ps_if (pt_cmpR oLtI (pv 3) pe_int (nomark _)) (pss_one (ps_ret (pe_fz G_sync (hr.mono (by decide)) (by rfl) T.g_sync passN (pa_cons (pv 1) (pa_cons (pv 2) pa_nil))))) pss_nil)
  (pss_cons (ps_if (pt_cmpR oLtI (pv 3) pe_int (nomark _)) (pss_one (ps_ret (pe_fz G_fail (hr.mono (by decide)) (by rfl) T.g_fail passN (pa_cons (pv 0) (pa_cons (pv 1) (pa_cons (pv 2) pa_nil)))))) pss_nil)
  (pss_one (ps_ret (pe_fz G_power (hr.mono (by decide)) (by rfl) T.g_power passN (pa_cons (pv 0) (pa_cons (pv 1) (pa_cons (pv 2) pa_nil))))))))))
theorem d_sector {P : Program} {w : World} {K : PySem.W.Frag} {mg : Str → Option Value} {base : Heap} (T : Tx K mg) {cdv : Value} {A : Around} {outer : List Env} {s : Shared} {H : Hp} {E : XK} (hr : Room (0) (A.deeper (envOfC "_law_sector" (defScope s_sector) s.heap.objs.size (He.fAd K ("_law_sector", none)) cdv))) :
    PSs (cxOf CX0 P w K mg base ["_law_world", "_law_index", "_law_data", "_law_other", "_law_written"] "_law_sector" (defScope s_sector) (He.fAd K ("_law_sector", none)) cdv A outer s H E).nox (defBody s_sector) (t_sector K) := by
  have nd : (["_law_world", "_law_index", "_law_data", "_law_other", "_law_written"] : List Str).Nodup := sc_sector.nd
  have hu := hu_of hr
  exact (pss_cons (ps_set (i := 2) nd rfl (Or.inl rfl) (pe_dget2 hu (pe_dget hu (pv 0) pe_str (fun _ _ => rfl)) (pv 1) (pe_op op_rep (pe_lst (pa_cons pe_int pa_nil)) pe_int) ⟨rfl, rfl, rfl, rfl⟩))
  (pss_cons (ps_for PassesOwn.never rfl (pi_list (pe_dget hu (pv 0) pe_str (fun _ _ => rfl))) (pg_tup rfl (pgs_cons (pg_name (i := 3) nd rfl (Or.inl rfl)) (pgs_cons (pg_name (i := 4) nd rfl (Or.inl rfl)) pgs_nil))) (pss_one (ps_if (pt_cmpR op_eq (pv 3) (pv 1) (nomark _)) (pss_one (ps_set (i := 2) nd rfl (Or.inl rfl) (pv 4))) pss_nil)))
  (pss_one (ps_ret (pv 2)))))
theorem d_is_right {P : Program} {w : World} {K : PySem.W.Frag} {mg : Str → Option Value} {base : Heap} (T : Tx K mg) (G_Disk_size : Con P w K mg base CX0 1 ("Disk", some "size") ["self"] (spDSize K)) (G_Disk_pending : Con P w K mg base CX0 1 ("Disk", some "pending") ["self"] (spDPending K)) (G_Disk_counts : Con P w K mg base CX0 1 ("Disk", some "counts") ["self"] (spDCounts K)) (G_Disk_is_on : Con P w K mg base CX0 1 ("Disk", some "is_on") ["self"] (spDIsOn K)) (G_Disk_losses : Con P w K mg base CX0 1 ("Disk", some "losses") ["self"] (spDLosses K)) (G_same : Con P w K mg base CX0 4 ("_law_same", none) ["_law_actual", "_law_expected"] (spSame K 3)) (G_next : Con P w K mg base CX0 1 ("_law_next", none) ["_law_state", "_law_limit"] (spNext K)) (G_Disk_read : Con P w K mg base CX0 1 ("Disk", some "read") ["self", "index"] (spDRead K)) (G_sector : Con P w K mg base CX0 1 ("_law_sector", none) ["_law_world", "_law_index"] (spSector K)) {cdv : Value} {A : Around} {outer : List Env} {s : Shared} {H : Hp} {E : XK} (hr : Room (4) (A.deeper (envOfC "_law_is_right" (defScope s_is_right) s.heap.objs.size (He.fAd K ("_law_is_right", none)) cdv))) :
    PSs (cxOf CX0 P w K mg base ["_law_state", "_law_world", "_law_disk", "_law_told", "_law_due", "_law_index", "_law_sector_here", "_law_place", "_law_data"] "_law_is_right" (defScope s_is_right) (He.fAd K ("_law_is_right", none)) cdv A outer s H E).nox (defBody s_is_right) (t_is_right K) := by
  have nd : (["_law_state", "_law_world", "_law_disk", "_law_told", "_law_due", "_law_index", "_law_sector_here", "_law_place", "_law_data"] : List Str).Nodup := sc_is_right.nd
  have hu := hu_of hr
  exact (pss_cons (ps_set (i := 3) nd rfl (Or.inl rfl) (pe_lst (pa_cons (pe_mz0 G_Disk_size (hr.mono (by decide)) T.c_Disk T.m_Disk_size passN (pv 2)) (pa_cons (pe_mz0 G_Disk_pending (hr.mono (by decide)) T.c_Disk T.m_Disk_pending passN (pv 2)) (pa_cons (pe_mz0 G_Disk_counts (hr.mono (by decide)) T.c_Disk T.m_Disk_counts passN (pv 2)) (pa_cons (pe_mz0 G_Disk_is_on (hr.mono (by decide)) T.c_Disk T.m_Disk_is_on passN (pv 2)) (pa_cons (pe_mz0 G_Disk_losses (hr.mono (by decide)) T.c_Disk T.m_Disk_losses passN (pv 2)) pa_nil)))))))
  (pss_cons (ps_set (i := 4) nd rfl (Or.inl rfl) (pe_lst (pa_cons (pe_dget hu (pv 1) pe_str (fun _ _ => rfl)) (pa_cons (pe_callB cLenQ (by rfl) T.f_len (by decide +kernel) (pa_cons (pe_dget hu (pv 1) pe_str (fun _ _ => rfl)) pa_nil)) (pa_cons (pe_callTy cTupQ (by rfl) T.f_tuple (by decide +kernel) (pa_cons (pe_dget hu (pv 1) pe_str (fun _ _ => rfl)) pa_nil)) (pa_cons (pe_dget hu (pv 1) pe_str (fun _ _ => rfl)) (pa_cons (pe_dget hu (pv 1) pe_str (fun _ _ => rfl)) pa_nil)))))))
  (pss_cons (ps_if (PW.pt (pw_or (pt_not (pt_val (pe_fz G_same (hr.mono (by decide)) (by rfl) T.g_same passN (pa_cons (pv 3) (pa_cons (pv 4) pa_nil))))) (pw_or1 (PW.pt (pw_and (pt_not (pt_val (pe_dget hu (pv 1) pe_str (fun _ _ => rfl)))) (pw_and1 (pt_cmpR op_notBl (pe_fldz T.c_Disk T.n_Disk_in_use ok_Disk_in_use (pv 2)) pe_bl (nomark _)))))))) (pss_one (ps_ret pe_bl)) pss_nil)
  (pss_cons (ps_for PassesOwn.never rfl (pi_list (pe_op op_cat (pe_lc (own := [("_law_place", 7), ("_law_data", 8)]) (g := (gTup K 2 (gCons (gName 7) (gCons (gName 8) gNil)))) (tt := tYes) rfl nd (pi_list (pe_dget hu (pv 1) pe_str (fun _ _ => rfl))) (blkOk_by (N := ["_law_state", "_law_world", "_law_disk", "_law_told", "_law_due", "_law_index", "_law_sector_here", "_law_place", "_law_data"]) (sc := defScope s_is_right) (by decide +kernel)) (fun _ _ _ _ _ => (pg_tup rfl (pgs_cons (pg_name (i := 7) nd rfl (Or.inl rfl)) (pgs_cons (pg_name (i := 8) nd rfl (Or.inl rfl)) pgs_nil)))) (fun _ _ _ _ _ => pts_nil) (fun _ _ _ _ _ => (pv 7))) (pe_lst (pa_cons (pe_fz G_next (hr.mono (by decide)) (by rfl) T.g_next passN (pa_cons (pv 0) (pa_cons (pe_dget hu (pv 1) pe_str (fun _ _ => rfl)) pa_nil))) (pa_cons pe_int (pa_cons pe_int pa_nil)))))) (pg_name (i := 5) nd rfl (Or.inl rfl)) (pss_cons (ps_set (i := 6) nd rfl (Or.inl rfl) (pe_mz G_Disk_read (hr.mono (by decide)) T.c_Disk T.m_Disk_read passN (pv 2) (pa_cons (pv 5) pa_nil)))
  (pss_cons (ps_if (pt_not (pt_val (pe_fz G_same (hr.mono (by decide)) (by rfl) T.g_same passN (pa_cons (pv 6) (pa_cons (pe_fz G_sector (hr.mono (by decide)) (by rfl) T.g_sector passN (pa_cons (pv 1) (pa_cons (pv 5) pa_nil))) pa_nil))))) (pss_one (ps_ret pe_bl)) pss_nil)
  (pss_one (ps_asg pe_int (pg_sub (pv 6) pe_int set_list))))))
  (pss_one (ps_ret pe_bl))))))
theorem d_law {P : Program} {w : World} {K : PySem.W.Frag} {mg : Str → Option Value} {base : Heap} (T : Tx K mg) (G_next : Con P w K mg base CX0 1 ("_law_next", none) ["_law_state", "_law_limit"] (spNext K)) (G_refused : Con P w K mg base CX0 3 ("_law_refused", none) ["_law_size"] (spRefused K)) (G_Disk_init : Con P w K mg base (L2.CX P w) 1 ("Disk", some "__init__") ["self", "sectors"] (spDInit K)) (G_is_right : Con P w K mg base CX0 5 ("_law_is_right", none) ["_law_state", "_law_world", "_law_disk"] (spRight K)) (G_deed : Con P w K mg base CX0 5 ("_law_deed", none) ["_law_state", "_law_world", "_law_disk"] (spDeed K)) (G_Disk_read : Con P w K mg base CX0 1 ("Disk", some "read") ["self", "index"] (spDRead K)) (G_sector : Con P w K mg base CX0 1 ("_law_sector", none) ["_law_world", "_law_index"] (spSector K)) {cdv : Value} {A : Around} {outer : List Env} {s : Shared} {H : Hp} {E : XK} (hr : Room (5) (A.deeper (envOfC "law" (defScope s_law) s.heap.objs.size (He.fAd K ("law", none)) cdv))) :
    PSs (cxOf CX0 P w K mg base ["_law_script", "_law_state", "_law_size", "_law_disk", "_law_world", "_law_k", "_law_index"] "law" (defScope s_law) (He.fAd K ("law", none)) cdv A outer s H E).nox (defBody s_law) (t_law K) := by
  have nd : (["_law_script", "_law_state", "_law_size", "_law_disk", "_law_world", "_law_k", "_law_index"] : List Str).Nodup := sc_law.nd
  have hu := hu_of hr
  exact (pss_cons (ps_set (i := 1) nd rfl (Or.inl rfl) (pe_lst (pa_cons (pe_callTy cListQ (by rfl) T.f_list (by decide +kernel) (pa_cons (pv 0) pa_nil)) (pa_cons pe_int (pa_cons pe_int (pa_cons pe_int pa_nil))))))
  (pss_cons (ps_for PassesOwn.never rfl (pi_list (pe_lst (pa_cons (pe_op oSubI pe_int (pe_fz G_next (hr.mono (by decide)) (by rfl) T.g_next passN (pa_cons (pv 1) (pa_cons pe_int pa_nil)))) (pa_cons (pe_op oAddI pe_int (pe_fz G_next (hr.mono (by decide)) (by rfl) T.g_next passN (pa_cons (pv 1) (pa_cons pe_int pa_nil)))) (pa_cons pe_bl (pa_cons pe_str (pa_cons pe_non (pa_cons (pe_lst (pa_cons pe_int pa_nil)) pa_nil)))))))) (pg_name (i := 2) nd rfl (Or.inl rfl)) (pss_one (ps_if (pt_not (pt_val (pe_fz G_refused (hr.mono (by decide)) (by rfl) T.g_refused passN (pa_cons (pv 2) pa_nil)))) (pss_one (ps_ret pe_bl)) pss_nil)))
  (pss_cons (ps_set (i := 2) nd rfl (Or.inl rfl) (pe_ix ix_list (pe_lst (pa_cons pe_int (pa_cons pe_int (pa_cons pe_int (pa_cons (pe_op oAddI pe_int (pe_fz G_next (hr.mono (by decide)) (by rfl) T.g_next passN (pa_cons (pv 1) (pa_cons pe_int pa_nil)))) pa_nil))))) (pe_fz G_next (hr.mono (by decide)) (by rfl) T.g_next passN (pa_cons (pv 1) (pa_cons pe_int pa_nil))) (fun _ _ => rfl)))
  (pss_cons (ps_set (i := 3) nd rfl (Or.inl rfl) (pe_kz G_Disk_init T.k_Disk (hr.mono (by decide)) (by rfl) T.g_Disk passF (pa_cons (pv 2) pa_nil)))
  (pss_cons (ps_set (i := 4) nd rfl (Or.inl rfl) (pe_disp (pps_cons pe_str (pv 2) (pps_cons pe_str pe_dnewK (pps_cons pe_str (pe_lst pa_nil) (pps_cons pe_str pe_bl (pps_cons pe_str pe_non (pps_cons pe_str pe_int (pps_cons pe_str (pe_lst (pa_cons pe_int (pa_cons pe_int pa_nil))) pps_nil))))))) (by rfl) (by rfl) (fun z => by cases z) (by decide)))
  (pss_cons (ps_if (pt_cmpR op_notBl (pe_fldz T.c_Disk T.n_Disk_in_use ok_Disk_in_use (pv 3)) pe_bl (nomark _)) (pss_one (ps_ret pe_bl)) pss_nil)
  (pss_cons (ps_for PassesOwn.never rfl (pi_range1 (by rfl) T.f_range (pa_cons (pe_fz G_next (hr.mono (by decide)) (by rfl) T.g_next passN (pa_cons (pv 1) (pa_cons pe_int pa_nil))) pa_nil)) (pg_name (i := 5) nd rfl (Or.inl rfl)) (pss_one (ps_if (PW.pt (pw_or (pt_not (pt_val (pe_fz G_is_right (hr.mono (by decide)) (by rfl) T.g_is_right passN (pa_cons (pv 1) (pa_cons (pv 4) (pa_cons (pv 3) pa_nil)))))) (pw_or1 (pt_not (pt_val (pe_fz G_deed (hr.mono (by decide)) (by rfl) T.g_deed passN (pa_cons (pv 1) (pa_cons (pv 4) (pa_cons (pv 3) pa_nil))))))))) (pss_one (ps_ret pe_bl)) pss_nil)))
  (pss_cons (ps_for PassesOwn.never rfl (pi_range1 (by rfl) T.f_range (pa_cons (pv 2) pa_nil)) (pg_name (i := 6) nd rfl (Or.inl rfl)) (pss_one (ps_if (pt_cmpR (op_neD hr.units) (pe_mz G_Disk_read (hr.mono (by decide)) T.c_Disk T.m_Disk_read passN (pv 3) (pa_cons (pv 6) pa_nil)) (pe_fz G_sector (hr.mono (by decide)) (by rfl) T.g_sector passN (pa_cons (pv 4) (pa_cons (pv 6) pa_nil))) (nomark _)) (pss_one (ps_ret pe_bl)) pss_nil)))
  (pss_one (ps_ret (pe_fz G_is_right (hr.mono (by decide)) (by rfl) T.g_is_right passN (pa_cons (pv 1) (pa_cons (pv 4) (pa_cons (pv 3) pa_nil))))))))))))))
local macro_rules | `(tactic| walk_at "ne") => `(tactic| first
  | assumption
  | (apply Ne.symm; assumption)
  | (refine' ne_of_none ?k1 ?k2; (case k2 => assumption); (case k1 => walk_at "hp"))
  | (apply Ne.symm; refine' ne_of_none ?k1 ?k2; (case k2 => assumption); (case k1 => walk_at "hp"))
  | omega)
local macro_rules | `(tactic| walk_at "hp") => `(tactic| first
  | assumption
  | exact upd_same
  | (rw [upd_ne (by walk_at "ne")]; walk_at "hp")
  | (refine' same_at ?k1 ?k2; (case k1 => assumption); (case k2 => walk_at "hp")))
local macro_rules | `(tactic| walk_at "fre") => `(tactic| first
  | assumption
  | exact free_upd (by assumption)
  | exact free_upd (free_upd (by assumption))
  | exact free_upd (free_upd (free_upd (by assumption)))
  | exact free_upd (free_upd (free_upd (free_upd (by assumption))))
  | exact free_upd (free_upd (free_upd (free_upd (free_upd (by assumption)))))
  | exact free_upd (free_upd (free_upd (free_upd (free_upd (free_upd (by assumption)))))))
local macro_rules | `(tactic| walk_at "fr") => `(tactic| first
  | assumption
  | exact Fr.refl
  | exact Same.refl _
  | (refine' Fr.updm ?k1 ?k2; (case k2 => (simp; done)); (case k1 => walk_at "fr"))
  | (refine' Fr.updf ?k1 ?k2; (case k2 => walk_at "fre"); (case k1 => walk_at "fr"))
  | (refine' Same.updf ?k1 ?k2; (case k2 => walk_at "fre"); (case k1 => walk_at "fr"))
  | (refine' Fr.trans ?k1 ?k2; (case k1 => assumption); (case k2 => walk_at "fr")))
local macro_rules | `(tactic| walk_at "lku") => `(tactic| first | exact lkp_hit | (refine' lkp_ne ?k1 ?k2; (case k1 => decide +kernel); (case k2 => walk_at "lku")))
local macro_rules | `(tactic| walk_at "at") => `(tactic| first | walk_at "dv" | assumption | rfl)
local macro_rules | `(tactic| walk_at "go1") => `(tactic| (with_reducible first
  | refine g_seq ?_ | refine g_next ?_ | refine g_brk ?_ | refine g_cont ?_ | refine g_asg ?_ | refine g_drop ?_ | refine g_ret ?_ | refine g_retN ?_ | refine g_ifs ?_ | refine g_raise ?_ | refine g_try ?_ | refine g_tryAs ?_
  | refine g_sfld ?_ | refine g_sfldz ?_ | refine g_sfldi ?_ | refine g_augz ?_
  | refine g_dput ?_ | refine g_daug ?_ | refine g_augS ?_ | refine g_ipAdd ?_ | refine g_ipSub ?_
  | refine g_name ?_ | refine g_gcons ?_ | refine g_gnil ?_ | refine g_gsub ?_
  | refine g_c ?_ | refine g_op ?_ | refine g_un ?_ | refine g_nil ?_ | refine g_cons ?_ | refine g_tTup ?_ | refine g_tLst ?_
  | refine g_fldz ?_ | refine g_fldI ?_ | refine g_cb ?_ | refine g_callz ?_ | refine g_methz ?_ | refine g_makez ?_
  | refine g_disp ?_ | refine g_pnil ?_ | refine g_pcons ?_ | refine g_dget2 ?_ | refine g_dnewK ?_ | refine g_bm ?_ | refine g_bm0 ?_ | refine g_dget ?_ | refine g_slice ?_ | refine g_ifx ?_ | refine g_andV ?_ | refine g_orV ?_ | refine g_andVK ?_ | refine g_orVK ?_ | refine g_notV ?_ | refine g_notVK ?_
  | refine g_test ?_ | refine g_tB ?_ | refine g_blK ?_ | refine g_and ?_ | refine g_or ?_ | refine g_not ?_ | refine g_chain ?_ | refine g_chK ?_
  | refine g_for ?_ | refine g_lc ?_ | refine g_iL ?_ | refine g_iT ?_ | refine g_iR ?_ | refine g_iR2 ?_ | refine g_iZ ?_ | refine g_iE ?_ | refine g_iS ?_ | refine g_iSK ?_
  | refine if_T ?_ | refine if_F ?_ | refine if_nT ?_ | refine if_nF ?_
  | refine v_addI ?_ | refine v_subI ?_ | refine v_negI ?_ | refine v_ltI ?_ | refine v_leI ?_ | refine v_gtI ?_ | refine v_geI ?_ | refine v_eqI ?_ | refine v_neI ?_ | refine v_eqB ?_ | refine v_neB ?_ | refine v_eqS ?_ | refine v_neS ?_ | refine v_eqNI ?_ | refine v_eqIN ?_
  | refine v_isN ?_ | refine v_isNI ?_ | refine v_isNB ?_ | refine v_isNS ?_ | refine v_isNR ?_ | refine v_noN ?_ | refine v_noNI ?_ | refine v_noNB ?_ | refine v_noNS ?_ | refine v_noNR ?_ | refine v_isB ?_ | refine v_notB ?_
  | refine v_rAdd ?_ | refine v_rSub ?_ | refine v_int ?_ | refine v_intB ?_ | refine v_minN ?_ | refine v_min ?_ | refine v_max ?_ | refine v_abs ?_))
local macro_rules | `(tactic| walk_at "go2") => `(tactic| first
  | ((with_reducible refine' g_putKK ?k1 ?_); (case k1 => walk_at "hp"))
  | ((with_reducible refine' g_tup ?k1 ?k2 ?_); (case k1 => walk_at "hp"); (case k2 => rfl))
  | ((with_reducible refine' g_fldK ?k1 ?_); (case k1 => walk_at "hp"))
  | ((with_reducible refine' g_fldIK ?k1 ?k2 ?_); (case k1 => walk_at "hp"); (case k2 => walk_at "lku"))
  | ((with_reducible refine' g_augK ?k1 ?_); (case k1 => walk_at "hp"))
  | ((with_reducible refine' g_augE ?k1 ?_); (case k1 => walk_at "hp"))
  | ((with_reducible refine' g_bmL ?k1 ?_); (case k1 => walk_at "hp"))
  | ((with_reducible refine' g_bmD ?k1 ?_); (case k1 => walk_at "hp"))
  | ((with_reducible refine' g_bm0L ?k1 ?_); (case k1 => walk_at "hp"))
  | ((with_reducible refine' g_append ?k1 ?k2 ?_); (case k1 => walk_at "hp"); (case k2 => first | assumption | (show _ < _; decide)))
  | ((with_reducible refine' g_iLK ?k1 ?_); (case k1 => walk_at "hp"))
  | ((with_reducible refine' g_iTK ?k1 ?_); (case k1 => walk_at "hp"))
  | ((with_reducible refine' g_iRK ?k1 ?_); (case k1 => omega))
  | ((with_reducible refine' g_iR2K ?k1 ?_); (case k1 => omega))
  | ((with_reducible refine' g_iZK ?k1 ?k2 ?_); (case k1 => walk_at "hp"); (case k2 => walk_at "hp"))
  | ((with_reducible refine' g_iEK ?k1 ?_); (case k1 => walk_at "hp"))
  | ((with_reducible refine' g_initK ?k1 ?k2 ?_); (case k1 => walk_at "hp"); (case k2 => walk_at "few"))
  | ((with_reducible refine' v_rep ?k1 ?k2 ?_); (case k1 => walk_at "hp"); (case k2 => omega))
  | ((with_reducible refine' g_methK ?k1 ?k2 ?_); (case k1 => walk_at "hp"); (case k2 => walk_at "nm"))
  | ((with_reducible refine' g_var ?k1 ?_); (case k1 => rfl))
  | ((with_reducible refine' v_modI ?k1 ?_); (case k1 => omega))
  | ((with_reducible refine' v_fdvI ?k1 ?_); (case k1 => omega))
  | ((with_reducible refine' v_mulR ?k1 ?_); (case k1 => omega))
  | ((with_reducible refine' v_mulL ?k1 ?_); (case k1 => omega))
  | ((with_reducible refine' v_powI ?k1 ?_); (case k1 => decide))
  | ((with_reducible refine' g_aug ?k1 ?_); (case k1 => rfl))
  | ((with_reducible refine' g_lstK ?k1 ?_); (case k1 => (first | (show _ ≤ _; decide) | simp)))
  | ((with_reducible refine' g_tupK ?k1 ?_); (case k1 => (first | (show _ ≤ _; decide) | simp)))
  | ((with_reducible refine' v_ixL ?k1 ?k2 ?_); (case k1 => walk_at "hp"); (case k2 => walk_at "at"))
  | ((with_reducible refine' v_ixT ?k1 ?k2 ?_); (case k1 => walk_at "hp"); (case k2 => walk_at "at"))
  | ((with_reducible refine' v_ixQL ?k1 ?k2 ?_); (case k1 => walk_at "hp"); (case k2 => walk_at "at"))
  | ((with_reducible refine' v_ixQT ?k1 ?k2 ?_); (case k1 => walk_at "hp"); (case k2 => walk_at "at"))
  | ((with_reducible refine' g_dgetS ?k1 ?k2 ?_); (case k1 => walk_at "hp"); (case k2 => walk_at "at"))
  | ((with_reducible refine' g_dgetI ?k1 ?k2 ?_); (case k1 => walk_at "hp"); (case k2 => walk_at "at"))
  | ((with_reducible refine' g_daugS ?k1 ?k2 ?_); (case k1 => walk_at "hp"); (case k2 => walk_at "at"))
  | ((with_reducible refine' g_daugI ?k1 ?k2 ?_); (case k1 => walk_at "hp"); (case k2 => walk_at "at"))
  | ((with_reducible refine' g_dputS ?k1 ?k2 ?k3 ?_); (case k1 => walk_at "hp"); (case k2 => walk_at "dp"); (case k3 => walk_at "dl"))
  | ((with_reducible refine' g_dputES ?k1 ?k2 ?k3 ?_); (case k1 => walk_at "hp"); (case k2 => walk_at "dp"); (case k3 => walk_at "dl"))
  | ((with_reducible refine' g_dputI ?k1 ?k2 ?_); (case k1 => walk_at "hp"); (case k2 => walk_at "dl"))
  | ((with_reducible refine' g_dputEI ?k1 ?k2 ?_); (case k1 => walk_at "hp"); (case k2 => walk_at "dl"))
  | ((with_reducible refine' g_dg2K ?k1 ?_); (case k1 => walk_at "hp"))
  | ((with_reducible refine' g_dg2EI ?k1 ?_); (case k1 => walk_at "hp"))
  | ((with_reducible refine' g_setL ?k1 ?k2 ?_); (case k1 => walk_at "hp"); (case k2 => first | rfl | assumption))
  | ((with_reducible refine' v_lenL ?k1 ?_); (case k1 => walk_at "hp"))
  | ((with_reducible refine' v_lenT ?k1 ?_); (case k1 => walk_at "hp"))
  | ((with_reducible refine' v_lenD ?k1 ?_); (case k1 => walk_at "hp"))
  | ((with_reducible refine' v_listL ?k1 ?_); (case k1 => walk_at "hp"))
  | ((with_reducible refine' v_tupL ?k1 ?_); (case k1 => walk_at "hp")))
local macro_rules | `(tactic| walk_at "isi") => `(tactic| first
  | ((with_reducible refine i_II ?_))
  | ((with_reducible refine i_IB ?_))
  | ((with_reducible refine i_IS ?_))
  | ((with_reducible refine i_IL ?_))
  | ((with_reducible refine i_IT ?_))
  | ((with_reducible refine i_BI ?_))
  | ((with_reducible refine i_BB ?_))
  | ((with_reducible refine i_BS ?_))
  | ((with_reducible refine i_BL ?_))
  | ((with_reducible refine i_BT ?_))
  | ((with_reducible refine i_SI ?_))
  | ((with_reducible refine i_SB ?_))
  | ((with_reducible refine i_SS ?_))
  | ((with_reducible refine i_SL ?_))
  | ((with_reducible refine i_ST ?_))
  | ((with_reducible refine i_NI ?_))
  | ((with_reducible refine i_NB ?_))
  | ((with_reducible refine i_NS ?_))
  | ((with_reducible refine i_NL ?_))
  | ((with_reducible refine i_NT ?_))
  | ((with_reducible refine' i_LI ?k1 ?_); (case k1 => walk_at "hp"))
  | ((with_reducible refine' i_LB ?k1 ?_); (case k1 => walk_at "hp"))
  | ((with_reducible refine' i_LS ?k1 ?_); (case k1 => walk_at "hp"))
  | ((with_reducible refine' i_LL ?k1 ?_); (case k1 => walk_at "hp"))
  | ((with_reducible refine' i_LT ?k1 ?_); (case k1 => walk_at "hp"))
  | ((with_reducible refine' i_TI ?k1 ?_); (case k1 => walk_at "hp"))
  | ((with_reducible refine' i_TB ?k1 ?_); (case k1 => walk_at "hp"))
  | ((with_reducible refine' i_TS ?k1 ?_); (case k1 => walk_at "hp"))
  | ((with_reducible refine' i_TL ?k1 ?_); (case k1 => walk_at "hp"))
  | ((with_reducible refine' i_TT ?k1 ?_); (case k1 => walk_at "hp")))
local macro_rules | `(tactic| walk_at "few") => `(tactic| (refine few_a ?_; (repeat refine few_s ?_); exact few_z (by decide)))
local macro_rules | `(tactic| walk_at "go") => `(tactic| repeat (first | walk_at "go1" | walk_at "go2" | walk_at "isi"))
local macro_rules | `(tactic| walk_at "nm") => `(tactic| first | exact nm_Disk_size _ | exact nm_Disk_read _ | exact nm_Disk_pending _ | exact nm_Disk_counts _ | exact nm_Disk_lose_power _ | exact nm_Disk_operate _ | exact nm_Disk_write _ | exact nm_Disk_sync _ | exact nm_Disk_fail_after _ | exact nm_Disk_power _ | exact nm_Disk_is_on _ | exact nm_Disk_losses _)
local macro_rules | `(tactic| walk_at "dv") => `(tactic| first | with_reducible exact dv_World_size _ | with_reducible exact dv_World_lasting _ | with_reducible exact dv_World_waiting _ | with_reducible exact dv_World_on _ | with_reducible exact dv_World_left _ | with_reducible exact dv_World_losses _ | with_reducible exact dv_World_counts _ | with_reducible exact dv_Upd1_on _ | with_reducible exact dv_Upd1_left _ | with_reducible exact dv_Upd1_losses _ | with_reducible exact dv_Upd2_waiting _ | with_reducible exact dv_Upd2_on _ | with_reducible exact dv_Upd2_left _ | assumption)
local macro_rules | `(tactic| walk_at "dp") => `(tactic| first | with_reducible exact dp_World_size _ _ | with_reducible exact dp_World_lasting _ _ | with_reducible exact dp_World_waiting _ _ | with_reducible exact dp_World_on _ _ | with_reducible exact dp_World_left _ _ | with_reducible exact dp_World_losses _ _ | with_reducible exact dp_World_counts _ _ | with_reducible exact dp_Upd1_on _ _ | with_reducible exact dp_Upd1_left _ _ | with_reducible exact dp_Upd1_losses _ _ | with_reducible exact dp_Upd2_waiting _ _ | with_reducible exact dp_Upd2_on _ _ | with_reducible exact dp_Upd2_left _ _ | rfl)
local macro_rules | `(tactic| walk_at "dl") => `(tactic| first | with_reducible exact dl_World _ | with_reducible exact dl_Upd1 _ | with_reducible exact dl_Upd2 _ | assumption | omega)
local macro_rules | `(tactic| walk_at "nro") => `(tactic| first | exact nro_ins | exact nro_dK | exact nro_refs | exact nro_ref | exact nro_short (Nat.le_of_ble_eq_true rfl) | assumption)
local macro_rules | `(tactic| walk_at "kp") => `(tactic| first
  | assumption
  | exact Keeps.refl
  | (refine' Keeps.updf ?k1 ?k2; (case k2 => walk_at "fre"); (case k1 => walk_at "kp"))
  | (refine' Keeps.updm ?k1 ?k2 ?k3; (case k2 => walk_at "hp"); (case k3 => walk_at "nro"); (case k1 => walk_at "kp")))
local macro_rules | `(tactic| walk_at "n10") => `(tactic| (refine ne10.mpr ?_; (repeat' constructor) <;> first | assumption | (apply Ne.symm; assumption)))
local macro_rules | `(tactic| walk_at "nin") => `(tactic| (simp only [List.mem_cons, List.not_mem_nil, or_false, not_or]; (repeat' constructor) <;> first | assumption | (apply Ne.symm; assumption)))
section
variable {K : PySem.W.Frag}
theorem fdk_len {A : List Addr} {b : List (List Int)} {H : Hp} (h : Sects H A b) : (A.map V.ref).length = b.length := by rw [List.length_map, h.1]
theorem p_Disk_size (vs : List V) (H : Hp) (Q : VK) (E : XK) (h : spDSize K vs H Q E) : t_Disk_size K { nx := fun _ H' => Q .non H', rt := Q } (start ["self"] vs) H := by
  obtain ⟨p, l1, l2, l3, w, rfl, D, q⟩ := h
  obtain ⟨⟨dx, hp⟩, ⟨A1, h1, s1⟩, ⟨A2, h2, s2⟩, ⟨A3, h3, s3⟩, nd, ok⟩ := D
  unfold t_Disk_size
  walk_at "go"
  rw [fdk_len s1, ok.len]
  exact q
theorem p_Disk_read (vs : List V) (H : Hp) (Q : VK) (E : XK) (h : spDRead K vs H Q E) : t_Disk_read K { nx := fun _ H' => Q .non H', rt := Q } (start ["self", "index"] vs) H := by
  obtain ⟨p, l1, l2, l3, w, i, d, rfl, D, e, q⟩ := h
  obtain ⟨⟨dx, hp⟩, ⟨A1, h1, s1⟩, ⟨A2, h2, s2⟩, ⟨A3, h3, s3⟩, nd, ok⟩ := D
  obtain ⟨r, e1, e2, e3⟩ := s2.2 i d e
  have e4 : atI (A2.map V.ref) (i : Int) = some (.ref r) := atI_nat (by rw [List.getElem?_map, e1]; rfl)
  unfold t_Disk_read
  walk_at "go"
  exact q
theorem p_Disk_pending (vs : List V) (H : Hp) (Q : VK) (E : XK) (h : spDPending K vs H Q E) : t_Disk_pending K { nx := fun _ H' => Q .non H', rt := Q } (start ["self"] vs) H := by
  obtain ⟨p, l1, l2, l3, w, rfl, D, q⟩ := h
  obtain ⟨⟨dx, hp⟩, ⟨A1, h1, s1⟩, ⟨A2, h2, s2⟩, ⟨A3, h3, s3⟩, nd, ok⟩ := D
  unfold t_Disk_pending
  walk_at "go"
  rw [List.length_map, s3.1]
  exact q
theorem p_Disk_counts (vs : List V) (H : Hp) (Q : VK) (E : XK) (h : spDCounts K vs H Q E) : t_Disk_counts K { nx := fun _ H' => Q .non H', rt := Q } (start ["self"] vs) H := by
  obtain ⟨p, l1, l2, l3, w, rfl, D, q⟩ := h
  obtain ⟨⟨dx, hp⟩, ⟨A1, h1, s1⟩, ⟨A2, h2, s2⟩, ⟨A3, h3, s3⟩, nd, ok⟩ := D
  unfold t_Disk_counts
  walk_at "go"
  exact q
theorem p_Disk_is_on (vs : List V) (H : Hp) (Q : VK) (E : XK) (h : spDIsOn K vs H Q E) : t_Disk_is_on K { nx := fun _ H' => Q .non H', rt := Q } (start ["self"] vs) H := by
  obtain ⟨p, l1, l2, l3, w, rfl, D, q⟩ := h
  obtain ⟨⟨dx, hp⟩, _, _, _, nd, ok⟩ := D
  unfold t_Disk_is_on
  walk_at "go"
  exact q
theorem p_Disk_losses (vs : List V) (H : Hp) (Q : VK) (E : XK) (h : spDLosses K vs H Q E) : t_Disk_losses K { nx := fun _ H' => Q .non H', rt := Q } (start ["self"] vs) H := by
  obtain ⟨p, l1, l2, l3, w, rfl, D, q⟩ := h
  obtain ⟨⟨dx, hp⟩, _, _, _, nd, ok⟩ := D
  unfold t_Disk_losses
  walk_at "go"
  exact q
theorem p_Disk_lose_power (vs : List V) (H : Hp) (Q : VK) (E : XK) (h : spDLose K vs H Q E) : t_Disk_lose_power K { nx := fun _ H' => Q .non H', rt := Q } (start ["self"] vs) H := by
  obtain ⟨p, dx, l1, l2, l3, w, rfl, hp, q⟩ := h
  unfold t_Disk_lose_power
  walk_at "go"
  simp only [upd_upd]
  exact q
theorem p_Disk_operate (vs : List V) (H : Hp) (Q : VK) (E : XK) (h : spDOperate K vs H Q E) : t_Disk_operate K E { nx := fun _ H' => Q .non H', rt := Q } (start ["self"] vs) H := by
  obtain ⟨p, dx, l1, l2, l3, w, rfl, hp, q1, q2⟩ := h
  obtain ⟨n, base, wait, on, left, losses, writes, syncs⟩ := w
  unfold t_Disk_operate
  cases on with
  | false =>
    walk_at "go"
    exact q2 rfl _ hp Fr.refl
  | true =>
    cases left with
    | none =>
      walk_at "go"
      exact q1 rfl _ hp Fr.refl
    | some k =>
      walk_at "go"
      refine if_dec (fun hk => ?_) (fun hk => ?_)
      · subst hk
        walk_at "go"
        refine ⟨p, dx, l1, l2, l3, _, rfl, hp, ?_⟩
        walk_at "go"
        exact q2 rfl _ upd_same (by walk_at "fr")
      · have e : PW.op ⟨n, base, wait, true, some k, losses, writes, syncs⟩ = ⟨n, base, wait, true, some (k - 1), losses, writes, syncs⟩ := by
          unfold PW.op
          rw [if_pos rfl]
          exact if_neg hk
        rw [e] at q1
        walk_at "go"
        exact q1 rfl _ upd_same (by walk_at "fr")
theorem DkAt.keep {H H' : Hp} {p l1 l2 l3 : Addr} {w : PW} (D : DkAt K H p l1 l2 l3 w) (f : Fr H H' []) : DkAt K H' p l1 l2 l3 w := by
  have s : ∀ b o, H b = some o → H' b = some o := fun b o e => f b o e (by simp)
  obtain ⟨⟨dx, hp⟩, ⟨A1, h1, s1⟩, ⟨A2, h2, s2⟩, ⟨A3, h3, s3⟩, nd, ok⟩ := D
  have k : Keeps H H' := Keeps.of_same s
  exact ⟨⟨dx, s _ _ hp⟩, ⟨A1, s _ _ h1, s1.keep k⟩, ⟨A2, s _ _ h2, s2.keep k⟩, ⟨A3, s _ _ h3, s3.keep k⟩, nd, ok⟩
/-- the object alone changes -/
theorem DkAt.op {H H' : Hp} {p dx l1 l2 l3 : Addr} {w : PW} (D : DkAt K H p l1 l2 l3 w) (h : H' p = some (.ins (He.ga K "Disk") dx (F_Disk.fl (fdk w.op l1 l2 l3)))) (f : Fr H H' [p]) : DkAt K H' p l1 l2 l3 w.op := by
  obtain ⟨⟨dx, hp⟩, ⟨A1, h1, s1⟩, ⟨A2, h2, s2⟩, ⟨A3, h3, s3⟩, nd, ok⟩ := D
  obtain ⟨e1, e2, e3, e4, e5⟩ := PW.op_frame w
  have k : Keeps H H' := fun b o e r => f b o e (by
    intro m
    rw [List.mem_singleton.mp m, hp] at e
    cases e
    exact nro_ins r)
  have g : ∀ (b : Addr) (xs : List V), H b = some (.lst xs) → H' b = some (.lst xs) := fun b xs e => f b _ e (by
    intro m
    rw [List.mem_singleton.mp m, hp] at e
    cases e)
  refine ⟨⟨_, h⟩, ⟨A1, g _ _ h1, by rw [e2]; exact s1.keep k⟩, ⟨A2, g _ _ h2, ?_⟩, ⟨A3, g _ _ h3, by rw [e3]; exact s3.keep k⟩, nd, ok.op⟩
  unfold PW.seen
  rw [e2, e3]
  exact s2.keep k
theorem p_Disk_fail_after (vs : List V) (H : Hp) (Q : VK) (E : XK) (h : spDFail K vs H Q E) : t_Disk_fail_after K E { nx := fun _ H' => Q .non H', rt := Q } (start ["self", "operations"] vs) H := by
  obtain ⟨p, l1, l2, l3, w, k, rfl, D, hk, q1, q2⟩ := h
  obtain ⟨⟨dx, hp⟩, ⟨A1, h1, s1⟩, ⟨A2, h2, s2⟩, ⟨A3, h3, s3⟩, nd, ok⟩ := D
  unfold t_Disk_fail_after
  walk_at "go"
  cases hon : w.on with
  | false =>
    walk_at "go"
    exact q2 hon
  | true =>
    walk_at "go"
    have n1 : l1 ≠ p := (ne_of hp h1 (by intro z; cases z)).symm
    have n2 : l2 ≠ p := (ne_of hp h2 (by intro z; cases z)).symm
    have n3 : l3 ≠ p := (ne_of hp h3 (by intro z; cases z)).symm
    refine q1 hon _ ⟨⟨dx, upd_same⟩, ⟨A1, by walk_at "hp", s1.keep (Keeps.upd hp nro_ins)⟩, ⟨A2, by walk_at "hp", s2.keep (Keeps.upd hp nro_ins)⟩, ⟨A3, by walk_at "hp", s3.keep (Keeps.upd hp nro_ins)⟩, nd, ok.fa hk hon⟩ (by walk_at "fr")
end
section
variable {K : PySem.W.Frag}
theorem puts_snoc (ws : List (Nat × List Int)) (b : List (List Int)) (i : Nat) (d : List Int) : puts (ws ++ [(i, d)]) b = (puts ws b).set i d := by
  unfold puts
  rw [List.foldl_append]
  rfl
theorem p_Disk_write (vs : List V) (H : Hp) (Q : VK) (E : XK) (h : spDWrite K vs H Q E) : t_Disk_write K E { nx := fun _ H' => Q .non H', rt := Q } (start ["self", "index", "data"] vs) H := by
  obtain ⟨p, l1, l2, l3, w, i, a, d, rfl, Dall, ha, hd, hi, hw, q1, q2⟩ := h
  have D : DkAt K H p l1 l2 l3 w := by
    have := Dall (secO d)
    rw [upd_self ha] at this
    exact this
  obtain ⟨dx, hp⟩ := D.ob
  unfold t_Disk_write
  walk_at "go"
  refine ⟨p, dx, l1, l2, l3, w, rfl, hp, fun hon H1 h' f => ?_, fun hof H1 h' f => q2 hof H1 (D.op h' f) f⟩
  have D1 := D.op h' f
  have ha1 : H1 a = some (secO d) := f.at ha (by
    intro m
    rw [List.mem_singleton.mp m, hp] at ha
    cases ha)
  obtain ⟨_, ⟨A1, h1, s1⟩, ⟨A2, h2, s2⟩, ⟨A3, h3, s3⟩, ⟨n12, n13, n23⟩, ok⟩ := D1
  have hin : i < w.op.n := by rw [(PW.op_frame w).1]; exact hi
  have hix : ixN (A2.map V.ref).length (i : Int) = some i := Evl.ixN_nat (by rw [List.length_map, s2.1, ok.seen_len]; exact hin)
  have hsz : (A3.map V.ref).length < sizeLine := Nat.lt_of_le_of_lt (show (A3.map V.ref).length ≤ 1000 by rw [List.length_map, s3.1, (PW.op_frame w).2.2.1]; exact hw) (by decide)
  have np2 : p ≠ l2 := ne_of h' h2 (by intro z; cases z)
  have np3 : p ≠ l3 := ne_of h' h3 (by intro z; cases z)
  have np1 : p ≠ l1 := ne_of h' h1 (by intro z; cases z)
  have hna2 : a ≠ l2 := fun e => by rw [e, h2] at ha1; exact nro_refs (by rw [Option.some.inj ha1]; exact ro_ints hd)
  have hna3 : a ≠ l3 := fun e => by rw [e, h3] at ha1; exact nro_refs (by rw [Option.some.inj ha1]; exact ro_ints hd)
  walk_at "go"
  intro r hr
  walk_at "go"
  intro r2 hr2
  walk_at "go"
  intro t ht
  have hr1 : H1 r = none := hr
  walk_at "go"
  have k : Keeps H1 (upd (upd (upd (upd (upd (upd H1 r (HO.lst (List.map V.int d))) l2 (HO.lst ((List.map V.ref A2).set i (V.ref r)))) r2 (HO.lst (List.map V.int d))) t (HO.tup [V.int ↑i, V.ref r2])) l3 (HO.lst (List.map V.ref A3 ++ [V.ref t]))) p
      (HO.ins (He.ga K (Str.ofString "Disk")) dx (F_Disk.put_writes (V.int (w.op.writes + 1)) (fdk w.op l1 l2 l3)).fl)) := by walk_at "kp"
  have hpa : p ≠ a := ne_of h' ha1 (by intro z; cases z)
  have hla : l1 ≠ a := fun e => by rw [← e, h1] at ha1; exact nro_refs (by rw [Option.some.inj ha1]; exact ro_ints hd)
  refine q1 hon _ (fun o => ?_) (Fr.trans (f.mono (by simp)) (by walk_at "fr"))
  have Do := (Dall o).op (H' := upd H1 a o) (dx := dx) (by rw [upd_ne hpa]; exact h') (fun b u e n => by
    by_cases q : b = a
    · subst q; rw [upd_same] at e ⊢; exact e
    · rw [upd_ne q] at e ⊢; exact f b u e n)
  obtain ⟨_, ⟨B1, g1, t1⟩, ⟨B2, g2, t2⟩, ⟨B3, g3, t3⟩, _, _⟩ := Do
  rw [upd_ne hla, h1] at g1
  rw [upd_ne hna2.symm, h2] at g2
  rw [upd_ne hna3.symm, h3] at g3
  have b1 : A1 = B1 := refs_inj (HO.lst.inj (Option.some.inj g1))
  have b2 : A2 = B2 := refs_inj (HO.lst.inj (Option.some.inj g2))
  have b3 : A3 = B3 := refs_inj (HO.lst.inj (Option.some.inj g3))
  subst b1 b2 b3
  have ko := k.over a o
  have nra : r ≠ a := (ne_of_none ha1 hr1).symm
  have nr2a : r2 ≠ a := (ne_of_none (H := H1) ha1 (by walk_at "fre")).symm
  have nta : t ≠ a := (ne_of_none (H := H1) ha1 (by walk_at "fre")).symm
  refine ⟨⟨dx, by rw [upd_ne hpa]; exact upd_same⟩, ⟨A1, by rw [upd_ne hla]; walk_at "hp", t1.keep ko⟩, ⟨A2.set i r, by rw [List.map_set, upd_ne hna2.symm]; walk_at "hp", ?_⟩, ⟨A3 ++ [t], by rw [List.map_append, upd_ne hna3.symm]; walk_at "hp", ?_⟩, ⟨n12, n13, n23⟩, ok.wr hin hd⟩
  · show Sects _ _ (puts (w.op.wait ++ [(i, d)]) w.op.base)
    rw [puts_snoc]
    exact (t2.keep ko).set (by rw [upd_ne nra]; walk_at "hp") hd
  · exact (t3.keep ko).snoc (q := r2) (by rw [upd_ne nta]; walk_at "hp") (by rw [upd_ne nr2a]; walk_at "hp") hd
theorem p_Disk_sync (vs : List V) (H : Hp) (Q : VK) (E : XK) (h : spDSync K vs H Q E) : t_Disk_sync K E { nx := fun _ H' => Q .non H', rt := Q } (start ["self"] vs) H := by
  obtain ⟨p, l1, l2, l3, w, rfl, D, q1, q2⟩ := h
  obtain ⟨dx, hp⟩ := D.ob
  unfold t_Disk_sync
  walk_at "go"
  refine ⟨p, dx, l1, l2, l3, w, rfl, hp, fun hon H1 h' f => ?_, fun hof H1 h' f => q2 hof H1 (D.op h' f) f⟩
  have D1 := D.op h' f
  obtain ⟨_, ⟨A1, h1, s1⟩, ⟨A2, h2, s2⟩, ⟨A3, h3, s3⟩, ⟨n12, n13, n23⟩, ok⟩ := D1
  walk_at "go"
  intro m1 hm1
  walk_at "go"
  intro m3 hm3
  walk_at "go"
  simp only [upd_upd]
  have np2 : p ≠ l2 := ne_of h' h2 (by intro z; cases z)
  have n1 : p ≠ m1 := ne_of_none h' hm1
  have n2 : p ≠ m3 := ne_of_none (by walk_at "hp") hm3
  have n3 : l2 ≠ m1 := ne_of_none h2 hm1
  have n4 : l2 ≠ m3 := ne_of_none (by walk_at "hp") hm3
  have n5 : m1 ≠ m3 := ne_of_none (by walk_at "hp") hm3
  have k : Keeps H1 (upd (upd (upd (upd H1 m1 (HO.lst (List.map V.ref A2))) p (HO.ins (He.ga K (Str.ofString "Disk")) dx (F_Disk.put_lasting (V.ref m1) (fdk w.op l1 l2 l3)).fl)) m3 (HO.lst [])) p
      (HO.ins (He.ga K (Str.ofString "Disk")) dx (F_Disk.put_syncs (V.int (w.op.syncs + 1)) (F_Disk.put_waiting (V.ref m3) (F_Disk.put_lasting (V.ref m1) (fdk w.op l1 l2 l3)))).fl)) := by walk_at "kp"
  have fm : ∀ x, H1 x = none → H x = none := fun x hx => by
    cases e : H x with
    | none => rfl
    | some o =>
      by_cases hxp : x = p
      · subst hxp; rw [h'] at hx; cases hx
      · rw [f x o e (by simpa using hxp)] at hx; cases hx
  refine q1 hon m1 m3 _ ⟨⟨dx, upd_same⟩, ⟨A2, by walk_at "hp", s2.keep k⟩, ⟨A2, by walk_at "hp", s2.keep k⟩, ⟨[], by walk_at "hp", Waits.nil⟩, ⟨n3.symm, n5, n4⟩, ok.sy⟩ (Fr.trans (f.mono (by simp)) (by walk_at "fr")) (fm _ hm1) (fm _ (by walk_at "fre"))
end
section
variable {K : PySem.W.Frag}
def PW.off1 (w : PW) : PW := if w.on = true then w.fail else w
theorem pow_loop {p l1 l3 dx a : Addr} {w : PW} {ks : List Bool} {l2 : Addr} {H1 : Hp} {D : Ends} {A1 A3 : List Addr} (hp : H1 p = some (.ins (He.ga K "Disk") dx (F_Disk.fl (fdk w l1 l2 l3)))) (ha : H1 a = some (.lst (ks.map V.bl))) (n1 : a ≠ l1)
    (h1 : H1 l1 = some (.lst (A1.map V.ref))) (s1 : Sects H1 A1 w.base) (h3 : H1 l3 = some (.lst (A3.map V.ref))) (s3 : Waits H1 A3 w.wait) (n13 : l1 ≠ l3) (ok : w.Ok)
    (hd : ∀ v1 v2 v3 A' H', Fr H1 H' [l1] → H' l1 = some (.lst (A'.map V.ref)) → Sects H' A' (arrive ks w.wait w.base) → D.nx [some (.ref p), some (.ref a), v1, v2, v3] H') :
    forK (Itz K a l3) (gTup K 2 (gCons (gName 2) (gCons (gTup K 2 (gCons (gName 3) (gCons (gName 4) gNil))) gNil)))
      (tIfS (tB (tVar 2)) (tAsg (tVar 4) (gSub (tFldZ (He.ga K "Disk") F_Disk.fl F_Disk.f_lasting (tVar 0)) (tVar 3) rSetL)) tNext) D (start ["self", "kept", "arrives", "index", "data"] [.ref p, .ref a]) H1 := by
  have npl : p ≠ l1 := ne_of hp h1 (by intro z; cases z)
  refine for_Z (ks.map V.bl) (A3.map V.ref) (fun i σ H' => ∃ v1 v2 v3, σ = [some (.ref p), some (.ref a), v1, v2, v3] ∧ Fr H1 H' [l1] ∧ ∃ A' : List Addr, H' l1 = some (.lst (A'.map V.ref)) ∧ Sects H' A' (((ks.zip w.wait).take i).foldl stepA w.base)) ⟨_, _, _, rfl, Fr.refl, A1, h1, s1⟩
    (fun i σ H' ⟨_, _, _, _, f, _⟩ => ⟨SqL.of (f.at ha (by simpa using n1)), SqL.of (f.at h3 (by simpa using n13.symm))⟩) ?_ ?_
  · rintro i x y T σ H' hx hy ⟨v1, v2, v3, rfl, f, A', hA, sA⟩ hT
    rw [List.getElem?_map] at hx hy
    obtain ⟨k, hk, rfl⟩ := Option.map_eq_some_iff.mp hx
    obtain ⟨t, ht, rfl⟩ := Option.map_eq_some_iff.mp hy
    have hlt : i < w.wait.length := by rw [← s3.1]; exact (List.getElem?_eq_some_iff.mp ht).1
    obtain ⟨t', q, e1, e2, e3, e4⟩ := s3.2 i _ (List.getElem?_eq_getElem hlt)
    rw [ht] at e1
    cases e1
    have hw := ok.wt _ (List.getElem_mem hlt)
    have hz : (ks.zip w.wait)[i]? = some (k, w.wait[i]) := by
      rw [List.getElem?_zip_eq_some]
      exact ⟨hk, List.getElem?_eq_getElem hlt⟩
    have e5 := fold_succ (f := stepA) (b := w.base) hz
    generalize hwi : w.wait[i] = wi at *
    have g2 : H' t = some (.tup [.int wi.1, .ref q]) := f.at e2 (by
      intro m; rw [List.mem_singleton.mp m, h1] at e2; cases e2)
    have g3 : H' q = some (secO wi.2) := f.at e3 (by
      intro m; rw [List.mem_singleton.mp m, h1] at e3; exact nro_refs (by rw [Option.some.inj e3]; exact ro_ints e4))
    have g4 : H' p = some (.ins (He.ga K "Disk") dx (F_Disk.fl (fdk w l1 l2 l3))) := f.at hp (by simpa using npl)
    have nT1 : l1 ≠ T := ne_of_none hA hT
    have hix : ixN (A'.map V.ref).length (wi.1 : Int) = some wi.1 := Evl.ixN_nat (by rw [List.length_map, sA.1, foldA_len, ok.len]; exact hw.1)
    walk_at "go"
    refine if_bool (fun hb => ?_) (fun hb => ?_)
    · subst hb
      walk_at "go"
      refine ⟨_, _, _, rfl, f.trans (by walk_at "fr"), A'.set wi.1 q, by rw [List.map_set]; exact upd_same, ?_⟩
      rw [e5]
      have kk : Keeps H' (upd (upd H' T (HO.tup [V.bl true, V.ref t])) l1 (HO.lst ((A'.map V.ref).set wi.1 (V.ref q)))) := by walk_at "kp"
      exact (sA.keep kk).set (by exact kk q _ g3 (ro_ints e4)) e4
    · subst hb
      walk_at "go"
      refine ⟨_, _, _, rfl, f.trans (by walk_at "fr"), A', by walk_at "hp", ?_⟩
      rw [e5]
      exact sA.keep (by walk_at "kp")
  · rintro i σ H' hi ⟨v1, v2, v3, rfl, f, A', hA, sA⟩
    refine hd v1 v2 v3 A' H' f hA ?_
    have e : (ks.zip w.wait).take i = ks.zip w.wait := by
      apply List.take_of_length_le
      rw [List.length_zip]
      rw [List.length_map, List.length_map, s3.1] at hi
      omega
    rw [e] at sA
    exact sA
theorem p_Disk_power (vs : List V) (H : Hp) (Q : VK) (E : XK) (h : spDPower K vs H Q E) : t_Disk_power K { nx := fun _ H' => Q .non H', rt := Q } (start ["self", "kept", "arrives", "index", "data"] vs) H := by
  obtain ⟨p, l1, l2, l3, w, a, ks, rfl, D, ha, n1, q⟩ := h
  obtain ⟨⟨dx, hp⟩, ⟨A1, h1, s1⟩, ⟨A2, h2, s2⟩, ⟨A3, h3, s3⟩, ⟨n12, n13, n23⟩, ok⟩ := D
  unfold t_Disk_power
  have np1 : p ≠ l1 := ne_of hp h1 (by intro z; cases z)
  have np3 : p ≠ l3 := ne_of hp h3 (by intro z; cases z)
  have npa : p ≠ a := ne_of hp ha (by intro z; cases z)
  -- behind the first if
  have main : ∀ (w0 : PW) (H1 : Hp), w0.base = w.base → w0.wait = w.wait → w0.n = w.n → w0.left = none → w0.losses = (w.pow ks).losses → w0.writes = w.writes → w0.syncs = w.syncs → w0.Ok → H1 p = some (.ins (He.ga K "Disk") dx (F_Disk.fl (fdk w0 l1 l2 l3))) → Fr H H1 [p] →
      (tSeq (tFor (iZip K (tCons (tVar 1) (tCons (tFldZ (He.ga K "Disk") F_Disk.fl F_Disk.f_waiting (tVar 0)) tNil))) (gTup K 2 (gCons (gName 2) (gCons (gTup K 2 (gCons (gName 3) (gCons (gName 4) gNil))) gNil)))
          (tIfS (tB (tVar 2)) (tAsg (tVar 4) (gSub (tFldZ (He.ga K "Disk") F_Disk.fl F_Disk.f_lasting (tVar 0)) (tVar 3) rSetL)) tNext))
        (tSeq (sFldZ (He.ga K "Disk") F_Disk.fl F_Disk.put_seen (tVar 0) (tCB (rListQ K) (tCons (tFldZ (He.ga K "Disk") F_Disk.fl F_Disk.f_lasting (tVar 0)) tNil)))
          (tSeq (sFldZ (He.ga K "Disk") F_Disk.fl F_Disk.put_waiting (tVar 0) (tLst tNil)) (sFldZ (He.ga K "Disk") F_Disk.fl F_Disk.put_powered (tVar 0) (tC (.bl true)))))) { nx := fun _ H' => Q .non H', rt := Q } (start ["self", "kept", "arrives", "index", "data"] [.ref p, .ref a]) H1 := by
    intro w0 H1 eb ew en el eL eW eS ok0 hp1 f
    have h1' := f.at h1 (by simpa using np1.symm)
    have h3' := f.at h3 (by simpa using np3.symm)
    have ha' := f.at ha (by simpa using npa.symm)
    have kf : Keeps H H1 := fun b o e r => f b o e (by intro m; rw [List.mem_singleton.mp m, hp] at e; cases e; exact nro_ins r)
    have s1' := s1.keep kf
    have s3' := s3.keep kf
    rw [← eb] at s1'
    rw [← ew] at s3'
    walk_at "go"
    refine pow_loop hp1 ha' n1 h1' s1' h3' s3' n13 ok0 fun v1 v2 v3 A' H2 f2 hA sA => ?_
    have hp2 := f2.at hp1 (by simpa using np1)
    rw [eb, ew] at sA
    walk_at "go"
    intro m2 hm2
    walk_at "go"
    intro m3 hm3
    walk_at "go"
    simp only [upd_upd]
    have x1 : l1 ≠ m2 := ne_of_none hA hm2
    have x2 : l1 ≠ m3 := ne_of_none (by walk_at "hp") hm3
    have x3 : m2 ≠ m3 := ne_of_none (by walk_at "hp") hm3
    have x4 : p ≠ m2 := ne_of_none hp2 hm2
    have x5 : p ≠ m3 := ne_of_none (by walk_at "hp") hm3
    have fm : ∀ x, H2 x = none → H x = none := fun x hx => by
      cases e : H x with
      | none => rfl
      | some o =>
        by_cases hxp : x = p
        · subst hxp; rw [hp2] at hx; cases hx
        · by_cases hx1 : x = l1
          · subst hx1; rw [hA] at hx; cases hx
          · rw [f2 x o (f x o e (by simpa using hxp)) (by simpa using hx1)] at hx; cases hx
    have kk : Keeps H2 (upd (upd (upd (upd H2 m2 (HO.lst (List.map V.ref A'))) p (HO.ins (He.ga K "Disk") dx (F_Disk.put_seen (V.ref m2) (fdk w0 l1 l2 l3)).fl)) m3 (HO.lst [])) p
        (HO.ins (He.ga K "Disk") dx (F_Disk.put_powered (V.bl true) (F_Disk.put_waiting (V.ref m3) (F_Disk.put_seen (V.ref m2) (fdk w0 l1 l2 l3)))).fl)) := by walk_at "kp"
    have ef : F_Disk.put_powered (V.bl true) (F_Disk.put_waiting (V.ref m3) (F_Disk.put_seen (V.ref m2) (fdk w0 l1 l2 l3))) = fdk (w.pow ks) l1 m2 m3 := by
      simp only [fdk, F_Disk.put_powered, F_Disk.put_waiting, F_Disk.put_seen, el, eL, eW, eS]
      rfl
    rw [ef] at kk ⊢
    refine q m2 m3 _ ⟨⟨dx, upd_same⟩, ⟨A', by walk_at "hp", sA.keep kk⟩, ⟨A', by walk_at "hp", sA.keep kk⟩, ⟨[], by walk_at "hp", Waits.nil⟩, ⟨x1, x2, x3⟩, ok.pow ks⟩ ?_ (fm _ hm2) (fm _ (by walk_at "fre"))
    exact (f.mono (by simp)).trans ((f2.mono (by simp)).trans (by walk_at "fr"))
  cases hon : w.on with
  | true =>
    walk_at "go"
    rw [hon]
    walk_at "go"
    refine ⟨p, dx, l1, l2, l3, w, rfl, hp, ?_⟩
    exact main w.fail _ rfl rfl rfl rfl (by unfold PW.pow PW.fail; rw [if_pos hon]) rfl rfl ⟨ok.len, ok.big, ok.sec, ok.wt, fun k e => (by cases e), fun _ => rfl⟩ upd_same (by walk_at "fr")
  | false =>
    walk_at "go"
    rw [hon]
    refine if_F ?_
    exact main w _ rfl rfl rfl (ok.off hon) (by unfold PW.pow; rw [if_neg (by rw [hon]; exact Bool.false_ne_true)]) rfl rfl ok hp Fr.refl
theorem zeros_map : List.replicate 256 (V.int 0) = zeros.map V.int := by
  show _ = (List.replicate 256 (0 : Int)).map V.int
  rw [List.map_replicate]
theorem p_Disk_init (vs : List V) (H : Hp) (Q : VK) (E : XK) (h : spDInit K vs H Q E) : t_Disk_init K E { nx := fun _ H' => Q .non H', rt := Q } (start ["self", "sectors", "_"] vs) H := by
  obtain ⟨x, dx, v, rfl, hx, h⟩ := h
  unfold t_Disk_init
  rcases h with ⟨n, rfl, hn1, hn2, q⟩ | ⟨bad, q⟩
  · walk_at "go"
    refine if_dec (fun _ => ?_) (fun k => absurd hn1 (by omega))
    walk_at "go"
    refine if_not (fun k => absurd hn2 (by omega)) (fun _ => ?_)
    walk_at "go"
    have hnn : (n : Int).toNat = n := by omega
    rw [hnn]
    refine lc_mapR (n := n) (j := 2) (fun _ y H' => ∃ q, y = .ref q ∧ H' q = some (secO zeros)) (fun i y H1 H2 D acc H0 hD hacc hall f => ?_) (by omega) (fun _ => rfl) (fun i H' hi s R hR => ?_) (fun D ys H' hD hl s len rel => ?_)
    · rintro ⟨q, e1, e2⟩
      refine ⟨q, e1, f.at e2 ?_⟩
      intro m
      rw [List.mem_singleton.mp m, hacc] at e2
      cases acc with
      | nil => injection e2 with e2; injection e2 with e2; cases e2
      | cons z acc =>
        obtain ⟨q0, e, _⟩ := hall 0 z rfl
        subst e
        injection e2 with e2; injection e2 with e2; injection e2 with e2 _; cases e2
    · walk_at "go"
      intro l1 hl1
      walk_at "go"
      intro l2 hl2
      have h2 : H' l2 = none := by walk_at "fre"
      refine hR _ _ (fun b o e => ?_) ⟨l2, rfl, ?_⟩
      · rw [upd_ne (ne_of_none e h2), upd_ne (ne_of_none e hl1)]; exact e
      · rw [upd_same]
        show some (HO.lst (List.replicate 256 (V.int 0))) = _
        rw [zeros_map]
    · have hxD : x ≠ D := by
        have h0 : upd H x (HO.ins (He.ga K "Disk") dx (putF "in_use" (V.bl false) [])) x = some (HO.ins (He.ga K "Disk") dx (putF "in_use" (V.bl false) [])) := upd_same
        exact ne_of_none h0 hD
      have hx' : H' x = some (HO.ins (He.ga K "Disk") dx (putF "in_use" (V.bl false) [])) := s x _ upd_same
      have fH : Fr H H' [x] := fun b o e nb => s b o (by rw [upd_ne (by simpa using nb)]; exact e)
      have fm : ∀ y, H' y = none → H y = none := fun y hy => by
        cases e : H y with
        | none => rfl
        | some o =>
          by_cases hyx : y = x
          · subst hyx; rw [hx'] at hy; cases hy
          · rw [fH y o e (by simpa using hyx)] at hy; cases hy
      obtain ⟨A, eA, hA⟩ : ∃ A : List Addr, ys = A.map V.ref ∧ A.length = n ∧ ∀ (i : Nat) a, A[i]? = some a → H' a = some (secO zeros) := by
        have : ∀ ys : List V, (∀ (i : Nat) y, ys[i]? = some y → ∃ q, y = V.ref q ∧ H' q = some (secO zeros)) → ∃ A : List Addr, ys = A.map V.ref ∧ ∀ (i : Nat) a, A[i]? = some a → H' a = some (secO zeros) := by
          intro ys
          induction ys with
          | nil => exact fun _ => ⟨[], rfl, fun i a e => by simp at e⟩
          | cons y ys ih =>
            intro h
            obtain ⟨q, e, hq⟩ := h 0 y rfl
            obtain ⟨A, e1, e2⟩ := ih fun i z hz => h (i + 1) z hz
            refine ⟨q :: A, by rw [e, e1]; rfl, fun i a ea => ?_⟩
            cases i with
            | zero => cases ea; exact hq
            | succ i => exact e2 i a ea
        obtain ⟨A, e1, e2⟩ := this ys rel
        exact ⟨A, e1, by rw [← len, e1, List.length_map], e2⟩
      subst eA
      obtain ⟨hAn, hA⟩ := hA
      have sA : Sects H' A (List.replicate n zeros) := ⟨by rw [hAn, List.length_replicate], fun i d e => by
        rw [List.getElem?_replicate] at e
        split at e
        · rename_i hlt
          cases e
          have e1 : A[i]? = some A[i] := List.getElem?_eq_getElem (by rw [hAn]; exact hlt)
          exact ⟨_, e1, hA i _ e1, List.length_replicate⟩
        · cases e⟩
      walk_at "go"
      intro l2 hl2
      walk_at "go"
      intro l3 hl3
      walk_at "go"
      show Q V.non _
      simp only [upd_upd]
      rw [in_Disk]
      have x1 : D ≠ l2 := ne_of_none hl (free_upd hl2)
      have x2 : D ≠ l3 := ne_of_none hl (free_upd (free_upd (free_upd hl3)))
      have x3 : l2 ≠ l3 := ne_of_none (o := HO.lst (List.map V.ref A)) (H := upd (upd (upd H' x _) l2 _) x _) (by rw [upd_ne (ne_of_none upd_same hl2).symm]; exact upd_same) hl3
      have hl2' : H' l2 = none := free_upd hl2
      have hl3' : H' l3 = none := by walk_at "fre"
      have x4 : x ≠ l2 := ne_of_none hx' hl2'
      have x5 : x ≠ l3 := ne_of_none hx' hl3'
      refine q D l2 l3 _ ⟨⟨dx, upd_same⟩, ⟨A, by walk_at "hp", sA.keep ?_⟩, ⟨A, by walk_at "hp", sA.keep ?_⟩, ⟨[], by walk_at "hp", Waits.nil⟩, ⟨x1, x2, x3⟩, PW.Ok.new hn1 hn2⟩ (fH.trans (by walk_at "fr")) (free_upd hD) (fm _ hl2') (fm _ hl3')
      · walk_at "kp"
      · walk_at "kp"
  · rcases bad with ⟨n, rfl, hn⟩ | ⟨b, rfl⟩ | ⟨s, rfl⟩ | rfl | ⟨a, xs, rfl, ha⟩
    · walk_at "go"
      refine if_dec (fun k1 => ?_) (fun k => ?_)
      · walk_at "go"
        refine if_not (fun _ => ?_) (fun k => absurd k1 (by omega))
        walk_at "go"
        exact q
      · walk_at "go"
        exact q
    · walk_at "go"
      exact q
    · walk_at "go"
      exact q
    · walk_at "go"
      exact q
    · walk_at "go"
      exact q
end
section
variable {K : PySem.W.Frag}
theorem p_next (vs : List V) (H : Hp) (Q : VK) (E : XK) (h : spNext K vs H Q E) : t_next K { nx := fun _ H' => Q .non H', rt := Q } (start ["_law_state", "_law_limit", "_law_cell", "_law_value"] vs) H := by
  obtain ⟨l, a, lim, rfl, ⟨ns, i, b, s, hl, ha, hi, hb, hs, hs2⟩, h0, h1, q⟩ := h
  have na : a ≠ l := fun e => by
    rw [e, hl] at ha
    injection ha with ha; injection ha with ha
    cases ns with
    | nil => cases ha
    | cons => injection ha with ha _; cases ha
  unfold t_next
  refine g_seqH (fun σ H1 => ∃ i b s c, σ = [some (.ref l), some (.int lim), c, none] ∧ H1 = upd H l (.lst [.ref a, .int i, .int b, .int s]) ∧ 0 ≤ i ∧ 0 ≤ b ∧ 0 ≤ s ∧ s < 2147483647) ?_ ?_
  · rintro σ H1 ⟨i, b, s, c, rfl, rfl, hi, hb, hs, hs2⟩
    have st : ∀ i' b' s' : Int, 0 ≤ i' → 0 ≤ b' → 0 ≤ s' → s' < 2147483647 → StA (upd H l (.lst [.ref a, .int i', .int b', .int s'])) l a := fun i' b' s' k1 k2 k3 k4 => ⟨ns, i', b', s', upd_same, by walk_at "hp", k1, k2, k3, k4⟩
    walk_at "go"
    refine if_dec (fun hb0 => ?_) (fun hb0 => ?_)
    · walk_at "go"
      show Q (V.int (b % lim)) _
      rw [upd_upd]
      exact q _ _ (Int.emod_nonneg _ (by omega)) (Int.emod_lt_of_pos _ h0) ⟨_, _, rfl⟩ (st i (b / lim) s hi (Int.ediv_nonneg hb (by omega)) hs hs2)
    · walk_at "go"
      show Q (V.int _) _
      rw [upd_upd]
      exact q _ _ (Int.emod_nonneg _ (by omega)) (Int.emod_lt_of_pos _ h0) ⟨_, _, rfl⟩ (st i b _ hi hb (Int.emod_nonneg _ (by omega)) (Int.emod_lt_of_pos _ (by omega)))
  · intro N hN
    walk_at "go"
    refine if_dec (fun hb0 => ?_) (fun hb0 => ?_)
    · walk_at "go"
      refine if_dec (fun hil => ?_) (fun hil => ?_)
      · have hn : i.toNat < ns.length := by
          rw [List.length_map] at hil
          omega
        have hix : atI (ns.map V.int) i = some (.int ns[i.toNat]) := by
          have e : atI (ns.map V.int) ((i.toNat : Nat) : Int) = some (.int ns[i.toNat]) := atI_nat (by rw [List.getElem?_map, List.getElem?_eq_getElem hn]; rfl)
          rw [show ((i.toNat : Nat) : Int) = i by omega] at e
          exact e
        generalize ns[i.toNat] = c at hix
        walk_at "go"
        refine if_dec (fun hc => ?_) (fun hc => ?_)
        · have hc0 : 0 ≤ c := by
            have : (0 : Int) ≤ 10 ^ Int.toNat 18 := by decide
            omega
          walk_at "go"
          rw [upd_upd]
          exact hN _ _ ⟨i + 1, c, s, _, rfl, rfl, by omega, hc0, hs, hs2⟩
        · walk_at "go"
          rw [upd_upd]
          exact hN _ _ ⟨i + 1, b, _, _, rfl, rfl, by omega, hb, Int.emod_nonneg _ (by omega), Int.emod_lt_of_pos _ (by omega)⟩
      · walk_at "go"
        exact hN _ _ ⟨i, b, s, _, rfl, (upd_self hl).symm, hi, hb, hs, hs2⟩
    · walk_at "go"
      exact hN _ _ ⟨i, b, s, _, rfl, (upd_self hl).symm, hi, hb, hs, hs2⟩
end
section
variable {K : PySem.W.Frag}
theorem Alike.mono {H H' : Hp} (s : Same H H') : ∀ {n : Nat} {x y : V}, Alike H n x y → Alike H' n x y := by
  intro n x y h
  induction h with
  | non => exact .non
  | bl b => exact .bl b
  | int i => exact .int i
  | str t h => exact .str t h
  | lst ea eb l z h ih => exact .lst (s _ _ ea) (s _ _ eb) l z ih
  | tup ea eb l z h ih => exact .tup (s _ _ ea) (s _ _ eb) l z ih
theorem p_same (n : Nat) (vs : List V) (H : Hp) (Q : VK) (E : XK) (h : spSame K n vs H Q E) : t_same K n { nx := fun _ H' => Q .non H', rt := Q } (start ["_law_actual", "_law_expected", "_law_k"] vs) H := by
  obtain ⟨x, y, rfl, al, q⟩ := h
  unfold t_same
  have loop : ∀ (D : Ends) (a b : Addr) (xs ys : List V) (m : Nat), n = m + 1 → (∀ H', Same H H' → D.nx [some (.ref a), some (.ref b), none] H' ∧ ∀ z, D.nx [some (.ref a), some (.ref b), some z] H') → xs.length = ys.length → (∀ (i : Nat) x y, xs[i]? = some x → ys[i]? = some y → Alike H m x y) →
      (∀ i : Nat, ∀ v H' Q', xs[i]? = some v → Same H H' → Q' v H' → rIx K (.ref a) (.int i) H' Q') → (∀ i : Nat, ∀ v H' Q', ys[i]? = some v → Same H H' → Q' v H' → rIx K (.ref b) (.int i) H' Q') →
      forK (Itr 0 ys.length) (gName 2) (tIfS (tNot (tB (tCallZ (spSameI K n) (fun _ => E0) (tCons (tOp (rIx K) (tVar 0) (tVar 2)) (tCons (tOp (rIx K) (tVar 1) (tVar 2)) tNil))))) (tRet (tC (.bl false))) tNext) D [some (.ref a), some (.ref b), none] H := by
    intro D a b xs ys m hm hD hl hal hx hy
    subst hm
    refine for_R0 (fun i σ H' => (σ = [some (.ref a), some (.ref b), none] ∨ ∃ z, σ = [some (.ref a), some (.ref b), some z]) ∧ Same H H') ⟨.inl rfl, Same.refl H⟩ ?_ ?_
    · rintro i σ H' hi ⟨hσ, s⟩
      have hx' : xs[i]? = some xs[i] := List.getElem?_eq_getElem (by omega)
      have hy' : ys[i]? = some ys[i] := List.getElem?_eq_getElem hi
      have body : ∀ c, tIfS (tNot (tB (tCallZ (spSameI K (m + 1)) (fun _ => E0) (tCons (tOp (rIx K) (tVar 0) (tVar 2)) (tCons (tOp (rIx K) (tVar 1) (tVar 2)) tNil))))) (tRet (tC (.bl false))) tNext
          { D with nx := fun σ H' => (σ = [some (.ref a), some (.ref b), none] ∨ ∃ z, σ = [some (.ref a), some (.ref b), some z]) ∧ Same H H', ct := fun σ H' => (σ = [some (.ref a), some (.ref b), none] ∨ ∃ z, σ = [some (.ref a), some (.ref b), some z]) ∧ Same H H', bk := D.nx } ([some (.ref a), some (.ref b), c].set 2 (some (.int i))) H' := by
        intro c
        walk_at "go"
        refine hx i _ H' _ hx' s ?_
        walk_at "go"
        refine hy i _ H' _ hy' s ?_
        walk_at "go"
        refine ⟨_, _, rfl, (hal i _ _ hx' hy').mono s, fun H2 s2 => ?_⟩
        walk_at "go"
        exact ⟨.inr ⟨_, rfl⟩, s.trans s2⟩
      rcases hσ with rfl | ⟨z, rfl⟩
      · exact body _
      · exact body _
    · rintro σ H' ⟨hσ, s⟩
      rcases hσ with rfl | ⟨z, rfl⟩
      · exact (hD H' s).1
      · exact (hD H' s).2 z
  cases al with
  | non =>
    walk_at "go"
    exact q H (Same.refl H)
  | bl b =>
    walk_at "go"
    exact v_eqDf True.intro (q H (Same.refl H))
  | int b =>
    walk_at "go"
    exact v_eqDf True.intro (q H (Same.refl H))
  | str b hb =>
    walk_at "go"
    exact v_eqDf hb (q H (Same.refl H))
  | lst ea eb l z h =>
    walk_at "go"
    refine if_not (fun k => absurd (by rw [l]) k) (fun _ => ?_)
    walk_at "go"
    refine loop _ _ _ _ _ _ rfl (fun H' s => ⟨?_, fun _ => ?_⟩) l h (fun i v H' Q' e s q' => v_ixQL (s _ _ ea) (atI_nat e) q') (fun i v H' Q' e s q' => v_ixQL (s _ _ eb) (atI_nat e) q')
    · walk_at "go"
      exact q H' s
    · walk_at "go"
      exact q H' s
  | tup ea eb l z h =>
    walk_at "go"
    refine if_not (fun k => absurd (by rw [l]) k) (fun _ => ?_)
    walk_at "go"
    refine loop _ _ _ _ _ _ rfl (fun H' s => ⟨?_, fun _ => ?_⟩) l h (fun i v H' Q' e s q' => v_ixQT (s _ _ ea) (atI_nat e) q') (fun i v H' Q' e s q' => v_ixQT (s _ _ eb) (atI_nat e) q')
    · walk_at "go"
      exact q H' s
    · walk_at "go"
      exact q H' s
end
section
variable {K : PySem.W.Frag} {mg : Str → Option Value}
theorem exK_ok (T : Tx K mg) : ExcC K (He.ga K "InvalidArgument") ∧ PySem.W.kitOne K (.ref (He.ga K "InvalidArgument")) (.ref (He.ga K "InvalidArgument")) = some true ∧ PySem.W.kitOne K (.ref (He.ga K "InvalidArgument")) (.type "ValueError") = some true := by
  have h := T.ex
  unfold exK at h
  simp only [Bool.and_eq_true, decide_eq_true_eq] at h
  exact ⟨exOf_ok h.1, h.2.1, h.2.2⟩
theorem BadSize.keep {H H' : Hp} {v : V} (s : Same H H') : BadSize H v → BadSize H' v := by
  rintro (h | h | h | h | ⟨a, xs, e, h⟩)
  · exact .inl h
  · exact .inr (.inl h)
  · exact .inr (.inr (.inl h))
  · exact .inr (.inr (.inr (.inl h)))
  · exact .inr (.inr (.inr (.inr ⟨a, xs, e, s _ _ h⟩)))
theorem p_refused (T : Tx K mg) (vs : List V) (H : Hp) (Q : VK) (E : XK) (h : spRefused K vs H Q E) : t_refused K { nx := fun _ H' => Q .non H', rt := Q } (start ["_law_size", "e"] vs) H := by
  obtain ⟨v, rfl, bad, q⟩ := h
  obtain ⟨x1, x2, x3⟩ := exK_ok T
  unfold t_refused
  walk_at "go"
  intro x dx hx hdx ne
  have s : Same H (upd (upd H dx (HO.own x)) x (HO.ins (He.ga K "Disk") dx [])) := fun b o e => by
    rw [upd_ne (ne_of_none e hx), upd_ne (ne_of_none e hdx)]; exact e
  refine ⟨x, dx, v, rfl, upd_same, .inr ⟨bad.keep s, true, T.e_InvalidArgument_AnswerError, fun _ a ha => ?_, fun h => by cases h⟩⟩
  walk_at "go"
  refine v_isZ x1 x2 ?_
  walk_at "go"
  refine v_isZT x1 x3 ?_
  exact q _ s
theorem p_operate (vs : List V) (H : Hp) (Q : VK) (E : XK) (h : spOperate K vs H Q E) : t_operate K { nx := fun _ H' => Q .non H', rt := Q } (start ["_law_world"] vs) H := by
  obtain ⟨wd, e1, e2, e3, w, rfl, hw, ok, q⟩ := h
  obtain ⟨n, base, wait, on, left, losses, writes, syncs⟩ := w
  unfold t_operate
  cases on with
  | false =>
    walk_at "go"
    exact q _ hw Fr.refl
  | true =>
    cases left with
    | none =>
      walk_at "go"
      exact q _ hw Fr.refl
    | some k =>
      walk_at "go"
      refine if_dec (fun hk => ?_) (fun hk => ?_)
      · subst hk
        walk_at "go"
        intro p hp
        have np : wd ≠ p := ne_of_none hw hp
        walk_at "go"
        refine g_dispK (W_Upd1.kv ⟨.bl false, .non, .int (losses + 1)⟩) upd_same rfl (by show 3 ≤ 15; decide) (dm_Upd1 _) ?_
        simp only [upd_upd]
        walk_at "go"
        refine g_dupdM (more := W_Upd1.kv ⟨.bl false, .non, .int (losses + 1)⟩) (by walk_at "hp") upd_same np (by show 7 + 3 ≤ 1000; decide) (kvs' := W_World.kv (wdl ⟨n, base, wait, false, none, losses + 1, writes, syncs⟩ e1 e2 e3)) ?_ ?_
        · unfold mergeK W_Upd1.kv
          simp only [List.foldl_cons, List.foldl_nil, dp_World_on, dp_World_left, dp_World_losses]
        · walk_at "go"
          exact q _ upd_same (by walk_at "fr")
      · have e : PW.op ⟨n, base, wait, true, some k, losses, writes, syncs⟩ = ⟨n, base, wait, true, some (k - 1), losses, writes, syncs⟩ := by
          unfold PW.op
          rw [if_pos rfl]
          exact if_neg hk
        rw [e] at q
        walk_at "go"
        exact q _ upd_same (by walk_at "fr")
theorem p_sector (vs : List V) (H : Hp) (Q : VK) (E : XK) (h : spSector K vs H Q E) : t_sector K { nx := fun _ H' => Q .non H', rt := Q } (start ["_law_world", "_law_index", "_law_data", "_law_other", "_law_written"] vs) H := by
  obtain ⟨wd, e1, e2, e3, m, w, i, d, rfl, D, ok, hd, q⟩ := h
  obtain ⟨hw, ⟨kvs, hk, hl, hn⟩, ⟨A, h2, s2⟩, h3⟩ := D
  unfold t_sector
  walk_at "go"
  intro p hp
  walk_at "go"
  intro p2 hp2
  walk_at "go"
  have s0 : Same H (upd (upd H p (HO.lst [V.int 0])) p2 (HO.lst (List.replicate (Int.toNat 256) (V.int 0)))) := fun b o e => by
    rw [upd_ne (ne_of_none e (free_upd hp2)), upd_ne (ne_of_none e hp)]; exact e
  have z0 : (upd (upd H p (HO.lst [V.int 0])) p2 (HO.lst (List.replicate (Int.toNat 256) (V.int 0)))) p2 = some (secO zeros) := by
    rw [upd_same]
    show some (HO.lst (List.replicate 256 (V.int 0))) = _
    rw [zeros_map]
  generalize (upd (upd H p (HO.lst [V.int 0])) p2 (HO.lst (List.replicate (Int.toNat 256) (V.int 0)))) = H0 at s0 z0
  have hi : i < w.base.length := by
    have := (List.getElem?_eq_some_iff.mp hd).1
    rw [PW.seen, puts_len] at this
    exact this
  have hb : w.base[i]? = some w.base[i] := List.getElem?_eq_getElem hi
  have h0 : ∃ v, (valV kvs (Sum.inl (i : Int))).getD (V.ref p2) = .ref v ∧ H0 v = some (secO w.base[i]) := by
    rcases hl i _ hb with ⟨e, ez⟩ | ⟨q, e, hq⟩
    · rw [e, ez]; exact ⟨p2, rfl, z0⟩
    · rw [e]; exact ⟨q, rfl, s0 _ _ hq⟩
  obtain ⟨v0, ev, hv0⟩ := h0
  rw [ev]
  refine for_L (A.map V.ref) (fun j σ H' => ∃ v dd c1 c2, σ = [some (.ref wd), some (.int i), some (.ref v), c1, c2] ∧ Same H0 H' ∧ H' v = some (secO dd) ∧ (puts (w.wait.take j) w.base)[i]? = some dd) ⟨v0, _, _, _, rfl, Same.refl _, hv0, hb⟩
    (fun j σ H' _ ⟨_, _, _, _, _, s, _⟩ => SqL.of (s _ _ (s0 _ _ h2))) ?_ ?_
  · rintro j x σ H' hx ⟨v, dd, c1, c2, rfl, s, hv, hdd⟩
    rw [List.getElem?_map] at hx
    obtain ⟨t, ht, rfl⟩ := Option.map_eq_some_iff.mp hx
    have hlt : j < w.wait.length := by rw [← s2.1]; exact (List.getElem?_eq_some_iff.mp ht).1
    have hw' : w.wait[j]? = some w.wait[j] := List.getElem?_eq_getElem hlt
    obtain ⟨t', q', k1, k2, k3, k4⟩ := s2.2 j _ hw'
    rw [ht] at k1
    cases k1
    have e5 := fold_succ (f := fun s (q : Nat × List Int) => s.set q.1 q.2) (b := w.base) hw'
    have e6 : (puts (w.wait.take (j + 1)) w.base)[i]? = if w.wait[j].1 = i then some w.wait[j].2 else some dd := by
      show ((w.wait.take (j + 1)).foldl (fun s (q : Nat × List Int) => s.set q.1 q.2) w.base)[i]? = _
      rw [e5]
      show ((puts (w.wait.take j) w.base).set _ _)[i]? = _
      rw [List.getElem?_set]
      split
      · rw [if_pos (by rw [puts_len]; exact (by omega))]
      · exact hdd
    generalize w.wait[j] = wj at *
    have g2 : H' t = some (.tup [.int wj.1, .ref q']) := s _ _ (s0 _ _ k2)
    have g3 : H' q' = some (secO wj.2) := s _ _ (s0 _ _ k3)
    walk_at "go"
    refine if_dec (fun he => ?_) (fun he => ?_)
    · walk_at "go"
      exact ⟨q', _, _, _, rfl, s, g3, by rw [e6, if_pos (by omega)]⟩
    · walk_at "go"
      exact ⟨v, dd, _, _, rfl, s, hv, by rw [e6, if_neg (by omega)]⟩
  · rintro σ H' ⟨v, dd, c1, c2, rfl, s, hv, hdd⟩
    rw [List.length_map, s2.1, List.take_length] at hdd
    have e : dd = d := by
      have h : w.seen[i]? = some dd := hdd
      rw [hd] at h; exact (Option.some.inj h).symm
    subst e
    walk_at "go"
    exact q v H' hv (s0.trans s)
theorem p_fail (T : Tx K mg) (vs : List V) (H : Hp) (Q : VK) (E : XK) (h : spFail K vs H Q E) : t_fail K { nx := fun _ H' => Q .non H', rt := Q } (start ["_law_state", "_law_world", "_law_disk", "_law_number", "_law_told"] vs) H := by
  obtain ⟨sa, st, wd, e1, e2, e3, p, l1, l2, l3, m, w, rfl, I, hm, q⟩ := h
  unfold t_fail
  walk_at "go"
  refine ⟨st, sa, 7, rfl, I.sta, by decide, by decide, fun r x h0 h1 _ hs => ?_⟩
  have I1 := I.stp hs
  generalize upd H st x = H1 at I1
  obtain ⟨dx, hp⟩ := I1.dk.ob
  walk_at "go"
  refine ⟨p, l1, l2, l3, w, r, rfl, I1.dk, h0, fun hon H2 D2 f2 => ?_, fun hof => ?_⟩
  · obtain ⟨na, nb, nc, nd, ne, nf, ng, nh⟩ := ne10.mp I1.nd
    have k2 : Keeps H1 H2 := fun b o e r => f2 b o e (by intro m; rw [List.mem_singleton.mp m, hp] at e; cases e; exact nro_ins r)
    have qq : ∀ {y : Addr}, y ≠ p → y ∉ [p] := fun h m => h (List.mem_singleton.mp m)
    have sta2 := I1.sta.keep f2 (qq nb.2.2.2.2.1) (qq na.2.2.2.2.2.1)
    have wda2 := I1.wda.keep I1.dk.ok f2 k2 (qq nc.2.2.2.1) (qq nd.2.2.1) (qq ne.2.1) (qq nf.1)
    have hw := wda2.ob
    walk_at "go"
    rw [hon]
    walk_at "go"
    have f3 : Fr H2 (upd H2 wd (HO.dK (W_World.put_left (V.int r) (wdl w e1 e2 e3)).kv)) [wd] := Fr.refl.updm List.mem_cons_self
    have k3 : Keeps H2 (upd H2 wd (HO.dK (W_World.put_left (V.int r) (wdl w e1 e2 e3)).kv)) := Keeps.upd wda2.ob nro_dK
    have q3 : ∀ {y : Addr}, y ≠ wd → y ∉ [wd] := fun h m => h (List.mem_singleton.mp m)
    exact q e1 e2 e3 l1 l2 l3 (w.fa r) _ ⟨sta2.keep f3 (q3 nb.1) (q3 na.2.1), (wda2.wob I1.dk.ok (w' := w.fa r) rfl rfl rfl rfl ⟨nc.1.symm, nc.2.1.symm, nc.2.2.1.symm⟩).more (Nat.le_succ _), D2.keepL f3 k3 (q3 nc.2.2.2.1.symm) (q3 nc.2.2.2.2.1.symm) (q3 nc.2.2.2.2.2.1.symm) (q3 nc.2.2.2.2.2.2.symm), I1.nd⟩ rfl
  · refine ⟨true, T.e_PowerOff_PowerOff, fun _ a ha => ?_, fun h => by cases h⟩
    have hw := I1.wda.ob
    walk_at "go"
    rw [hof]
    exact q e1 e2 e3 l1 l2 l3 w _ (I1.more (Nat.le_succ _)) rfl
theorem p_deed (vs : List V) (H : Hp) (Q : VK) (E : XK) (h : spDeed K vs H Q E) : t_deed K { nx := fun _ H' => Q .non H', rt := Q } (start ["_law_state", "_law_world", "_law_disk", "_law_pick"] vs) H := by
  obtain ⟨sa, st, wd, e1, e2, e3, p, l1, l2, l3, m, w, rfl, I, hm, q⟩ := h
  unfold t_deed
  walk_at "go"
  refine ⟨st, sa, 11, rfl, I.sta, by decide, by decide, fun r x h0 h1 _ hs => ?_⟩
  have I1 := I.stp hs
  generalize upd H st x = H1 at I1
  walk_at "go"
  refine if_dec (fun _ => ?_) (fun _ => ?_)
  · walk_at "go"
    exact ⟨sa, st, wd, e1, e2, e3, p, l1, l2, l3, m, w, rfl, I1, hm, q⟩
  walk_at "go"
  refine if_dec (fun _ => ?_) (fun _ => ?_)
  · walk_at "go"
    exact ⟨sa, st, wd, e1, e2, e3, p, l1, l2, l3, m, w, rfl, I1, hm, q⟩
  walk_at "go"
  refine if_dec (fun _ => ?_) (fun _ => ?_)
  · walk_at "go"
    exact ⟨sa, st, wd, e1, e2, e3, p, l1, l2, l3, m, w, rfl, I1, hm, q⟩
  walk_at "go"
  exact ⟨sa, st, wd, e1, e2, e3, p, l1, l2, l3, m, w, rfl, I1, hm, q⟩
end
section
variable {K : PySem.W.Frag} {mg : Str → Option Value}
theorem q3 {y z : Addr} (h : y ≠ z) : y ∉ [z] := fun m => h (List.mem_singleton.mp m)
theorem wipe_done {σ : St} {v : Option V} {i : Nat} : True := True.intro
theorem Last.put {H : Hp} {kvs : List (Key × V)} {b : List (List Int)} (h : Last H kvs b) {i : Nat} {q : Addr} {d : List Int} (e : H q = some (secO d)) : Last H (putK kvs (Sum.inl (i : Int)) (.ref q)) (b.set i d) := fun j c hc => by
  rw [List.getElem?_set] at hc
  rw [valV_put]
  by_cases hij : i = j
  · subst hij
    rw [if_pos rfl] at hc ⊢
    split at hc
    · cases hc
      exact .inr ⟨q, rfl, e⟩
    · cases hc
  · rw [if_neg hij] at hc
    rw [if_neg (by intro z; injection z with z; omega)]
    exact h j c hc
theorem p_sync (T : Tx K mg) (vs : List V) (H : Hp) (Q : VK) (E : XK) (h : spSync K vs H Q E) : t_sync K { nx := fun _ H' => Q .non H', rt := Q } (start ["_law_world", "_law_disk", "_law_due", "_law_done", "_law_index", "_law_data"] vs) H := by
  obtain ⟨sa, st, wd, e1, e2, e3, p, l1, l2, l3, m, w, rfl, I, hm, q⟩ := h
  obtain ⟨na, nb, nc, nd, ne, nf, ng, nh⟩ := ne10.mp I.nd
  unfold t_sync
  walk_at "go"
  refine ⟨wd, e1, e2, e3, w, rfl, I.wda.ob, I.dk.ok, fun H1 hw1 f1 => ?_⟩
  have k1 : Keeps H H1 := fun b o e r => f1 b o e (by intro m; rw [List.mem_singleton.mp m, I.wda.ob] at e; cases e; exact nro_dK r)
  have sta1 := I.sta.keep f1 (q3 nb.1) (q3 na.2.1)
  have dk1 := I.dk.keepL f1 k1 (q3 nc.2.2.2.1.symm) (q3 nc.2.2.2.2.1.symm) (q3 nc.2.2.2.2.2.1.symm) (q3 nc.2.2.2.2.2.2.symm)
  obtain ⟨_, ⟨kvs, he1, hl, hn⟩, ⟨A, he2, hA⟩, he3⟩ := I.wda
  have he1' := f1.at he1 (q3 nc.1.symm)
  have he2' := f1.at he2 (q3 nc.2.1.symm)
  have he3' := f1.at he3 (q3 nc.2.2.1.symm)
  obtain ⟨dx, hp⟩ := dk1.ob
  obtain ⟨o1, o2, o3, o4, o5⟩ := PW.op_frame w
  have wda1 : WdAt H1 wd e1 e2 e3 m w.op := ⟨hw1, ⟨kvs, he1', by rw [o2]; exact hl.keep k1 I.dk.ok.sec, by rw [o3]; exact hn⟩, ⟨A, he2', by rw [o3]; exact hA.keep k1⟩, by rw [o4, o5]; exact he3'⟩
  walk_at "go"
  refine ⟨p, l1, l2, l3, w, rfl, dk1, fun hon m1 m3 H2 D2 f2 fm1 fm3 => ?_, fun hof H2 D2 f2 => ?_⟩
  · have k2 : Keeps H1 H2 := fun b o e r => f2 b o e (by intro m; rw [List.mem_singleton.mp m, hp] at e; cases e; exact nro_ins r)
    have sta2 := sta1.keep f2 (q3 nb.2.2.2.2.1) (q3 na.2.2.2.2.2.1)
    have wda2 := wda1.keep I.dk.ok.op f2 k2 (q3 nc.2.2.2.1) (q3 nd.2.2.1) (q3 ne.2.1) (q3 nf.1)
    obtain ⟨hw2, ⟨kvs2, g1, gl, gn⟩, ⟨A2, g2, gA⟩, g3⟩ := wda2
    rw [hon]
    walk_at "go"
    refine for_L (A2.map V.ref) (fun j σ H' => ∃ c1 c2, σ = [some (.ref wd), some (.ref p), some (.bl true), some (.bl true), c1, c2] ∧ Fr H2 H' [e1] ∧ ∃ kv, H' e1 = some (.dK kv) ∧ Last H' kv (puts (w.op.wait.take j) w.op.base) ∧ kv.length ≤ kvs2.length + j) ⟨_, _, rfl, Fr.refl, kvs2, g1, gl, by omega⟩
      (fun j σ H' _ ⟨_, _, _, f, _⟩ => SqL.of (f.at g2 (q3 nd.1.symm))) ?_ ?_
    · rintro j x σ H' hx ⟨c1, c2, rfl, f, kv, hkv, hlast, hlen⟩
      rw [List.getElem?_map] at hx
      obtain ⟨t, ht, rfl⟩ := Option.map_eq_some_iff.mp hx
      have hlt : j < w.op.wait.length := by rw [← gA.1]; exact (List.getElem?_eq_some_iff.mp ht).1
      have hw' : w.op.wait[j]? = some w.op.wait[j] := List.getElem?_eq_getElem hlt
      obtain ⟨t', q', z1, z2, z3, z4⟩ := gA.2 j _ hw'
      rw [ht] at z1
      cases z1
      have e5 := fold_succ (f := fun s (q : Nat × List Int) => s.set q.1 q.2) (b := w.op.base) hw'
      have kf : Keeps H2 H' := fun b o e r => f b o e (by intro m; rw [List.mem_singleton.mp m, g1] at e; cases e; exact nro_dK r)
      have y2 := kf _ _ z2 ro_tup
      have y3 := kf _ _ z3 (ro_ints z4)
      have yw := f.at hw2 (q3 nc.1)
      have e6 : puts (w.op.wait.take (j + 1)) w.op.base = (puts (w.op.wait.take j) w.op.base).set w.op.wait[j].1 w.op.wait[j].2 := e5
      rw [e6]
      generalize w.op.wait[j] = wj at *
      have hkl : kv.length < 100000 := by omega
      walk_at "go"
      refine ⟨_, _, rfl, f.updm List.mem_cons_self, _, upd_same, ?_, ?_⟩
      · refine Last.put (Last.keep hlast (Keeps.upd hkv nro_dK) ?_) ?_
        · intro d hd
          rcases puts_mem hd with h | ⟨x, hx, e⟩
          · exact I.dk.ok.op.sec d h
          · rw [e]; exact (I.dk.ok.op.wt x (List.mem_of_mem_take hx)).2
        · rw [upd_ne (fun e => by rw [e, hkv] at y3; cases y3)]
          exact y3
      · have := length_putK kv (Sum.inl (wj.1 : Int)) (V.ref q')
        omega
    · rintro σ H3 ⟨c1, c2, rfl, f, kv, hkv, hlast, hlen⟩
      rw [List.length_map, gA.1, List.take_length] at hlast
      rw [List.length_map, gA.1] at hlen
      have kf : Keeps H2 H3 := fun b o e r => f b o e (by intro m; rw [List.mem_singleton.mp m, g1] at e; cases e; exact nro_dK r)
      have yw := f.at hw2 (q3 nc.1)
      have y3 := f.at g3 (q3 nd.2.1.symm)
      have sta3 := sta2.keep f (q3 nb.2.1) (q3 na.2.2.1)
      have D3 := D2.keepL f kf (q3 nd.2.2.1.symm) (q3 (ne_of_none he1' fm1).symm) (q3 nd.2.2.2.2.1.symm) (q3 (ne_of_none he1' fm3).symm)
      obtain ⟨_, _, _, _, _, _, _, _, _, _⟩ := fresh10 sta1 wda1 dk1 fm1
      obtain ⟨_, _, _, _, _, _, _, _, _, _⟩ := fresh10 sta1 wda1 dk1 fm3
      have hx1 := D3.nd
      obtain ⟨⟨dx3, x1⟩, ⟨B1, x2, _⟩, ⟨B2, x3, _⟩, ⟨B3, x4, _⟩, ⟨_, _, _⟩, _⟩ := D3
      have sta3' := sta3
      obtain ⟨ns, si, sb, ss, x5, x6, _⟩ := sta3'
      obtain ⟨⟨_, _, _, _, _, _, _, _, _⟩, ⟨_, _, _, _, _, _, _, _⟩, ⟨_, _, _, _, _, _, _⟩, ⟨_, _, _, _, _, _⟩, ⟨_, _, _, _, _⟩, ⟨_, _, _, _⟩, ⟨_, _, _⟩, _, _, _⟩ := ne10.mp I.nd
      have D3 := D2.keepL f kf (q3 nd.2.2.1.symm) (q3 (ne_of_none he1' fm1).symm) (q3 nd.2.2.2.2.1.symm) (q3 (ne_of_none he1' fm3).symm)
      have wda3 := (WdAt.mk yw ⟨kv, hkv, hlast, Nat.le_refl _⟩ ⟨A2, f.at g2 (q3 nd.1.symm), gA.keep kf⟩ y3 : WdAt H3 wd e1 e2 e3 _ { w.op with base := puts w.op.wait w.op.base })
      walk_at "go"
      intro nl hnl
      walk_at "go"
      obtain ⟨_, _, _, _, _, _, _, _, _, _⟩ := fresh10 sta3 wda3 D3 hnl
      have f4 : Fr H3 (upd (upd (upd H3 nl (HO.lst [])) wd (HO.dK (W_World.put_waiting (V.ref nl) (wdl w.op e1 e2 e3)).kv)) e3 (HO.lst ([V.int w.op.writes, V.int w.op.syncs].set (Int.toNat 1) (V.int (w.op.syncs + 1))))) [wd, e3] := by walk_at "fr"
      have k4 : Keeps H3 (upd (upd (upd H3 nl (HO.lst [])) wd (HO.dK (W_World.put_waiting (V.ref nl) (wdl w.op e1 e2 e3)).kv)) e3 (HO.lst ([V.int w.op.writes, V.int w.op.syncs].set (Int.toNat 1) (V.int (w.op.syncs + 1))))) := by walk_at "kp"
      generalize hH4 : (upd (upd (upd H3 nl (HO.lst [])) wd (HO.dK (W_World.put_waiting (V.ref nl) (wdl w.op e1 e2 e3)).kv)) e3 (HO.lst ([V.int w.op.writes, V.int w.op.syncs].set (Int.toNat 1) (V.int (w.op.syncs + 1))))) = H4 at f4 k4
      refine q e1 nl e3 m1 l2 m3 w.op.sy H4 ⟨sta3.keep f4 (by walk_at "nin") (by walk_at "nin"), ⟨by rw [← hH4]; walk_at "hp", ⟨kv, f4.at hkv (by walk_at "nin"), hlast.keep k4 I.dk.ok.op.seen_sec, ?_⟩, ⟨[], by rw [← hH4]; walk_at "hp", Waits.nil⟩, by rw [← hH4]; exact upd_same⟩, D3.keepL f4 k4 (by walk_at "nin") (by walk_at "nin") (by walk_at "nin") (by walk_at "nin"), (by (refine ne10.mpr ?_; (repeat' constructor) <;> first | assumption | (apply Ne.symm; assumption)))⟩ o1
      show kv.length + 0 ≤ m + 1
      omega
  · refine ⟨true, T.e_PowerOff_PowerOff, fun _ a ha => ?_, fun h => by cases h⟩
    rw [hof]
    walk_at "go"
    have k2 : Keeps H1 H2 := fun b o e r => f2 b o e (by intro m; rw [List.mem_singleton.mp m, hp] at e; cases e; exact nro_ins r)
    exact q e1 e2 e3 l1 l2 l3 w.op _ ⟨sta1.keep f2 (q3 nb.2.2.2.2.1) (q3 na.2.2.2.2.2.1), (wda1.keep I.dk.ok.op f2 k2 (q3 nc.2.2.2.1) (q3 nd.2.2.1) (q3 ne.2.1) (q3 nf.1)).more (Nat.le_succ _), D2, I.nd⟩ o1
theorem p_write (T : Tx K mg) (vs : List V) (H : Hp) (Q : VK) (E : XK) (h : spWrite K vs H Q E) : t_write K { nx := fun _ H' => Q .non H', rt := Q } (start ["_law_state", "_law_world", "_law_disk", "_law_index", "_law_start", "_law_data", "_law_due", "_law_passed", "_law_done", "_law_k"] vs) H := by
  obtain ⟨sa, st, wd, e1, e2, e3, p, l1, l2, l3, m, w, rfl, I, hm, q⟩ := h
  have hb := I.dk.ok.big
  unfold t_write
  have hw := I.wda.ob
  walk_at "go"
  refine ⟨st, sa, w.n, rfl, I.sta, by omega, by omega, fun r x hr0 hr1 _ hs => ?_⟩
  have I1 := I.stp hs
  generalize upd H st x = H1 at I1
  walk_at "go"
  intro pl hpl
  have s1 : Same H1 (upd H1 pl (HO.lst [V.int 0, V.int 1, V.int (↑w.n - 1), V.int r])) := same_new hpl
  have I1' := I1.same s1
  walk_at "go"
  refine ⟨st, sa, 4, rfl, I1'.sta, by decide, by decide, fun r2 x2 hz0 hz1 _ hs2 => ?_⟩
  have I2 := I1'.stp hs2
  have hpl2 : (upd (upd H1 pl (HO.lst [V.int 0, V.int 1, V.int (↑w.n - 1), V.int r])) st x2) pl = some (HO.lst [V.int 0, V.int 1, V.int (↑w.n - 1), V.int r]) := by
    rw [upd_ne (fresh10 I1.sta I1.wda I1.dk hpl).2.1.symm]; exact upd_same
  generalize (upd (upd H1 pl (HO.lst [V.int 0, V.int 1, V.int (↑w.n - 1), V.int r])) st x2) = H2 at I2 hpl2
  have hidx : ∃ i : Nat, i < w.n ∧ atI [V.int 0, V.int 1, V.int ((w.n : Int) - 1), V.int r] r2 = some (.int i) := by
    have : r2 = 0 ∨ r2 = 1 ∨ r2 = 2 ∨ r2 = 3 := by omega
    rcases this with rfl | rfl | rfl | rfl
    · exact ⟨0, by omega, rfl⟩
    · exact ⟨1, by omega, rfl⟩
    · exact ⟨w.n - 1, by omega, by rw [show ((w.n - 1 : Nat) : Int) = (w.n : Int) - 1 by omega]; rfl⟩
    · exact ⟨r.toNat, by omega, by rw [show ((r.toNat : Nat) : Int) = r by omega]; rfl⟩
  obtain ⟨i, hi, hidx⟩ := hidx
  walk_at "go"
  refine ⟨st, sa, 256, rfl, I2.sta, by decide, by decide, fun r3 x3 hy0 hy1 _ hs3 => ?_⟩
  have I3 := I2.stp hs3
  generalize upd H2 st x3 = H3 at I3
  walk_at "go"
  refine lc_mapR (n := 256) (j := 9) (fun k y _ => y = .int ((r3 + 7 * (k : Int)) % 256)) (fun _ _ _ _ _ _ _ _ _ _ _ h => h) (by omega) (fun _ => rfl) (fun k H' hk s R hR => ?_) (fun D ys H4 hD hl s len rel => ?_)
  · walk_at "go"
    exact hR _ _ (Same.refl _) rfl
  have I4 := I3.same s
  obtain ⟨data, hdata, hdl⟩ : ∃ data : List Int, ys = data.map V.int ∧ data.length = 256 := by
    refine ⟨(List.range 256).map fun (k : Nat) => (r3 + 7 * (k : Int)) % 256, ?_, by rw [List.length_map, List.length_range]⟩
    refine List.ext_getElem? fun k => ?_
    rw [List.map_map, List.getElem?_map]
    by_cases hk : k < 256
    · rw [List.getElem?_range hk]
      have e : ys[k]? = some ys[k] := List.getElem?_eq_getElem (by omega)
      rw [e, rel k _ e]
      rfl
    · rw [List.getElem?_eq_none (by omega), List.getElem?_eq_none (by rw [List.length_range]; omega)]
      rfl
  subst hdata
  have nD := fresh10 I3.sta I3.wda I3.dk hD
  have hok := I.dk.ok
  obtain ⟨o1, o2, o3, o4, o5⟩ := PW.op_frame w
  walk_at "go"
  refine ⟨wd, e1, e2, e3, w, rfl, I4.wda.ob, hok, fun H5 hw5 f5 => ?_⟩
  obtain ⟨⟨_, _, _, _, _, _, _, _, _⟩, ⟨_, _, _, _, _, _, _, _⟩, ⟨_, _, _, _, _, _, _⟩, ⟨_, _, _, _, _, _⟩, ⟨_, _, _, _, _⟩, ⟨_, _, _, _⟩, ⟨_, _, _⟩, _, _, _⟩ := ne10.mp I.nd
  obtain ⟨_, _, _, _, _, _, _, _, _, _⟩ := nD
  have k5 : Keeps H4 H5 := fun b o e r => f5 b o e (by intro m; rw [List.mem_singleton.mp m, I4.wda.ob] at e; cases e; exact nro_dK r)
  have sta5 := I4.sta.keep f5 (by walk_at "nin") (by walk_at "nin")
  have dk5 := I4.dk.keepL f5 k5 (by walk_at "nin") (by walk_at "nin") (by walk_at "nin") (by walk_at "nin")
  obtain ⟨_, ⟨kvs, he1, hlst, hn⟩, ⟨A, he2, hA⟩, he3⟩ := I4.wda
  have wda5 : WdAt H5 wd e1 e2 e3 m w.op := ⟨hw5, ⟨kvs, f5.at he1 (by walk_at "nin"), by rw [o2]; exact hlst.keep k5 hok.sec, by rw [o3]; exact hn⟩, ⟨A, f5.at he2 (by walk_at "nin"), by rw [o3]; exact hA.keep k5⟩, by rw [o4, o5]; exact f5.at he3 (by walk_at "nin")⟩
  have hl5 : H5 D = some (secO data) := f5.at hl (by walk_at "nin")
  walk_at "go"
  intro ps hps
  have s6 : Same H5 (upd H5 ps (HO.lst (List.map V.int data))) := same_new hps
  have nD5 := fresh10 sta5 wda5 dk5 hps
  have nDp : D ≠ ps := ne_of_none hl5 hps
  have hps6 : (upd H5 ps (HO.lst (List.map V.int data))) ps = some (secO data) := upd_same
  have hl6 := s6 _ _ hl5
  have sta6 := sta5.keep (L := []) (Fr.of_same s6) (by simp) (by simp)
  have wda6 := wda5.keep (L := []) hok.op (Fr.of_same s6) (Keeps.of_same s6) (by simp) (by simp) (by simp) (by simp)
  have dk6a : ∀ o, DkAt K (upd (upd H5 ps (HO.lst (List.map V.int data))) ps o) p l1 l2 l3 w := fun o => by
    rw [upd_upd]
    have so : Same H5 (upd H5 ps o) := same_new hps
    exact dk5.keepL (L := []) (Fr.of_same so) (Keeps.of_same so) (by simp) (by simp) (by simp) (by simp)
  have wda6a : ∀ o, WdAt (upd (upd H5 ps (HO.lst (List.map V.int data))) ps o) wd e1 e2 e3 m w.op := fun o => by
    rw [upd_upd]
    have so : Same H5 (upd H5 ps o) := same_new hps
    exact wda5.keep (L := []) hok.op (Fr.of_same so) (Keeps.of_same so) (by simp) (by simp) (by simp) (by simp)
  have dk6 := dk5.keepL (L := []) (Fr.of_same s6) (Keeps.of_same s6) (by simp) (by simp) (by simp) (by simp)
  generalize upd H5 ps (HO.lst (List.map V.int data)) = H6 at s6 hps6 hl6 sta6 wda6 dk6 dk6a wda6a
  obtain ⟨_, _, _, _, _, _, _, _, _, _⟩ := nD5
  obtain ⟨dx, hp⟩ := dk6.ob
  obtain ⟨B1, hB1, _⟩ := dk6.s1
  obtain ⟨B2, hB2, _⟩ := dk6.s2
  obtain ⟨B3, hB3, _⟩ := dk6.s3
  walk_at "go"
  refine ⟨p, l1, l2, l3, w, i, ps, data, rfl, dk6a, hps6, hdl, hi, by omega, fun hon H7 D7 f7 => ?_, fun hof H7 D7 f7 => ?_⟩
  · have k7 : Keeps H6 H7 := fun b o e r => f7 b o e (by
      intro m
      simp only [List.mem_cons, List.not_mem_nil, or_false] at m
      rcases m with rfl | rfl | rfl
      · rw [hp] at e; cases e; exact nro_ins r
      · rw [hB2] at e; cases e; exact nro_refs r
      · rw [hB3] at e; cases e; exact nro_refs r)
    have sta7 := sta6.keep f7 (by walk_at "nin") (by walk_at "nin")
    have wda7 := wda6.keep hok.op f7 k7 (by walk_at "nin") (by walk_at "nin") (by walk_at "nin") (by walk_at "nin")
    have hps7 := f7.at hps6 (by walk_at "nin")
    have hl7 := f7.at hl6 (by walk_at "nin")
    rw [hon]
    obtain ⟨hw7, ⟨kvs7, g1, glst, gn⟩, ⟨A7, g2, gA⟩, g3⟩ := wda7
    walk_at "go"
    refine v_neDL hps7 hl7 flat_ints ?_
    have hd0 : ∃ d0, atI (data.map V.int) 0 = some (.int d0) := by
      cases data with
      | nil => cases hdl
      | cons d0 ds => exact ⟨d0, atI_nat (j := 0) (by rfl)⟩
    obtain ⟨d0, hd0⟩ := hd0
    have hix0 : ixN (data.map V.int).length 0 = some 0 := by rw [List.length_map, hdl]; rfl
    have hA7 : (A7.map V.ref).length < sizeLine := Nat.lt_of_le_of_lt (show (A7.map V.ref).length ≤ 1000 by rw [List.length_map, gA.1]; omega) (by decide)
    walk_at "go"
    intro tp htp
    walk_at "go"
    generalize HO.lst ((List.map V.int data).set 0 (V.int ((d0 + 1) % 256))) = o8 at htp ⊢
    have D8 := D7 o8
    have f8 : Fr H7 (upd H7 ps o8) [ps] := Fr.refl.updm List.mem_cons_self
    have sta8 := sta7.keep f8 (by walk_at "nin") (by walk_at "nin")
    have wda8 := (wda6a o8).keep hok.op (f7.over ps o8) (k7.over ps o8) (by walk_at "nin") (by walk_at "nin") (by walk_at "nin") (by walk_at "nin")
    have hl8 := f8.at hl7 (by walk_at "nin")
    have nT8 := fresh10 sta8 wda8 D8 htp
    have nDT : D ≠ tp := ne_of_none hl8 htp
    have g2' := f8.at g2 (by walk_at "nin")
    have g3' := f8.at g3 (by walk_at "nin")
    generalize upd H7 ps o8 = H8 at D8 sta8 wda8 hl8 g2' g3' htp ⊢
    obtain ⟨y0, ⟨kv8, y1, ylst, yn⟩, ⟨A8, y2, yA⟩, y3⟩ := wda8
    rw [g2'] at y2
    have eA : A7 = A8 := refs_inj (HO.lst.inj (Option.some.inj y2))
    subst eA
    obtain ⟨_, _, _, _, _, _, _, _, _, _⟩ := nT8
    have f9 : Fr H8 (upd (upd (upd H8 tp (HO.tup [V.int ↑i, V.ref D])) e2 (HO.lst (List.map V.ref A7 ++ [V.ref tp]))) e3 (HO.lst ([V.int w.op.writes, V.int w.op.syncs].set (Int.toNat 0) (V.int (w.op.writes + 1))))) [e2, e3] := by walk_at "fr"
    have k9 : Keeps H8 (upd (upd (upd H8 tp (HO.tup [V.int ↑i, V.ref D])) e2 (HO.lst (List.map V.ref A7 ++ [V.ref tp]))) e3 (HO.lst ([V.int w.op.writes, V.int w.op.syncs].set (Int.toNat 0) (V.int (w.op.writes + 1))))) := by walk_at "kp"
    generalize hH9 : (upd (upd (upd H8 tp (HO.tup [V.int ↑i, V.ref D])) e2 (HO.lst (List.map V.ref A7 ++ [V.ref tp]))) e3 (HO.lst ([V.int w.op.writes, V.int w.op.syncs].set (Int.toNat 0) (V.int (w.op.writes + 1))))) = H9 at f9 k9
    have hwe : (w.op.wait ++ [(i, data)]).length = w.op.wait.length + 1 := by rw [List.length_append]; rfl
    refine q e1 e2 e3 l1 l2 l3 (w.op.wr i data) H9 ⟨sta8.keep f9 (by walk_at "nin") (by walk_at "nin"), ⟨f9.at y0 (by walk_at "nin"), ⟨kv8, f9.at y1 (by walk_at "nin"), ylst.keep k9 hok.op.sec, ?_⟩, ⟨A7 ++ [tp], by rw [← hH9, List.map_append]; walk_at "hp", (yA.keep k9).snoc (q := D) (by rw [← hH9]; walk_at "hp") (k9 _ _ hl8 (ro_ints hdl)) hdl⟩, by rw [← hH9]; exact upd_same⟩, D8.keepL f9 k9 (by walk_at "nin") (by walk_at "nin") (by walk_at "nin") (by walk_at "nin"), I.nd⟩ o1
    show kv8.length + (w.op.wait ++ [(i, data)]).length ≤ m + 1
    omega
  · refine ⟨true, T.e_PowerOff_PowerOff, fun _ a ha => ?_, fun h => by cases h⟩
    rw [hof]
    walk_at "go"
    have k7 : Keeps H6 H7 := fun b o e r => f7 b o e (by intro m; rw [List.mem_singleton.mp m, hp] at e; cases e; exact nro_ins r)
    exact q e1 e2 e3 l1 l2 l3 w.op _ ⟨sta6.keep f7 (by walk_at "nin") (by walk_at "nin"), (wda6.keep hok.op f7 k7 (by walk_at "nin") (by walk_at "nin") (by walk_at "nin") (by walk_at "nin")).more (Nat.le_succ _), D7, I.nd⟩ o1
end
section
variable {K : PySem.W.Frag} {mg : Str → Option Value}
theorem p_power (vs : List V) (H : Hp) (Q : VK) (E : XK) (h : spPower K vs H Q E) : t_power K { nx := fun _ H' => Q .non H', rt := Q } (start ["_law_state", "_law_world", "_law_disk", "_law_k", "_law_kept", "_law_passed"] vs) H := by
  obtain ⟨sa, st, wd, e1, e2, e3, p, l1, l2, l3, m, w, rfl, I, hm, q⟩ := h
  unfold t_power
  have hwt : w.wait.length ≤ 500 := by
    obtain ⟨_, ⟨_, _, _, h⟩, _⟩ := I.wda
    omega
  have hw := I.wda.ob
  obtain ⟨A, hA, sA⟩ := I.wda.wt
  walk_at "go"
  refine ⟨st, sa, (A.map V.ref).length + 3, rfl, I.sta, by omega, by rw [List.length_map, sA.1]; omega, fun r x hr0 hr1 _ hs => ?_⟩
  have I1 := I.stp hs
  generalize upd H st x = H1 at I1
  rw [List.length_map, sA.1] at hr1
  walk_at "go"
  refine lc_R (n := r.toNat) (fun D i H' => Inv0 K H' sa st wd e1 e2 e3 p l1 l2 l3 m w ∧ (sa ≠ D ∧ st ≠ D ∧ wd ≠ D ∧ e1 ≠ D ∧ e2 ≠ D ∧ e3 ≠ D ∧ p ≠ D ∧ l1 ≠ D ∧ l2 ≠ D ∧ l3 ≠ D) ∧ ∃ ks : List Bool, H' D = some (.lst (ks.map V.bl)) ∧ ks.length = i)
    (fun D hD => ⟨I1.same (same_new hD), fresh10 I1.sta I1.wda I1.dk hD, [], upd_same, rfl⟩) (fun D i H' hi ⟨J, n, ks, hk, hkl⟩ => ⟨rfl, ?_⟩) (fun D H2 ⟨J, n, ks, hk, hkl⟩ => ?_)
  · refine g_yesT ?_
    rw [if_pos rfl]
    walk_at "go"
    refine ⟨st, sa, 2, rfl, J.sta, by decide, by decide, fun r2 x2 _ _ _ hs2 => ?_⟩
    have J2 := J.stp hs2
    have hk2 : (upd H' st x2) D = some (.lst (ks.map V.bl)) := by rw [upd_ne n.2.1.symm]; exact hk
    generalize upd H' st x2 = H3 at J2 hk2
    walk_at "go"
    refine ⟨_, hk2, Nat.lt_of_le_of_lt (show (ks.map V.bl).length ≤ 1000 by rw [List.length_map, hkl]; omega) (by decide), J2.oth n hk2 nro_bls, n, ks ++ [decide (r2 = 1)], by rw [List.map_append]; exact upd_same, by rw [List.length_append, hkl]; rfl⟩
  obtain ⟨⟨_, _, _, _, _, _, _, _, _⟩, ⟨_, _, _, _, _, _, _, _⟩, ⟨_, _, _, _, _, _, _⟩, ⟨_, _, _, _, _, _⟩, ⟨_, _, _, _, _⟩, ⟨_, _, _, _⟩, ⟨_, _, _⟩, _, _, _⟩ := ne10.mp I.nd
  walk_at "go"
  intro ps hps
  have n5 := fresh10 J.sta J.wda J.dk hps
  have ndp : D ≠ ps := ne_of_none hk hps
  have J3 := J.same (same_new (o := .lst (ks.map V.bl)) hps)
  have hk3 : (upd H2 ps (HO.lst (List.map V.bl ks))) D = some (.lst (ks.map V.bl)) := by rw [upd_ne ndp]; exact hk
  have hps3 : (upd H2 ps (HO.lst (List.map V.bl ks))) ps = some (.lst (ks.map V.bl)) := upd_same
  generalize upd H2 ps (HO.lst (List.map V.bl ks)) = H3 at J3 hk3 hps3
  obtain ⟨_, _, _, _, _, _, _, _, _, _⟩ := n
  obtain ⟨_, _, _, _, _, _, _, _, _, _⟩ := n5
  obtain ⟨dx, hp⟩ := J3.dk.ob
  obtain ⟨B1, hB1, _⟩ := J3.dk.s1
  walk_at "go"
  refine ⟨p, l1, l2, l3, w, ps, ks, rfl, J3.dk, hps3, by apply Ne.symm; assumption, fun m2 m3 H4 D4 f4 fm2 fm3 => ?_⟩
  have k4 : Keeps H3 H4 := fun b o e r => f4 b o e (by
    intro m
    simp only [List.mem_cons, List.not_mem_nil, or_false] at m
    rcases m with rfl | rfl
    · rw [hp] at e; cases e; exact nro_ins r
    · rw [hB1] at e; cases e; exact nro_refs r)
  have sta4 := J3.sta.keep f4 (by walk_at "nin") (by walk_at "nin")
  have wda4 := J3.wda.keep I.dk.ok f4 k4 (by walk_at "nin") (by walk_at "nin") (by walk_at "nin") (by walk_at "nin")
  have hk4 := f4.at hk3 (by walk_at "nin")
  have hps4 := f4.at hps3 (by walk_at "nin")
  obtain ⟨_, _, _, _, _, _, _, _, _, _⟩ := fresh10 J3.sta J3.wda J3.dk fm2
  obtain ⟨_, _, _, _, _, _, _, _, _, _⟩ := fresh10 J3.sta J3.wda J3.dk fm3
  have nm2 : D ≠ m2 := ne_of_none hk3 fm2
  have nm3 : D ≠ m3 := ne_of_none hk3 fm3
  obtain ⟨hw4, ⟨kv4, g1, glst, gn⟩, ⟨A4, g2, gA⟩, g3⟩ := wda4
  walk_at "go"
  refine v_neDL hps4 hk4 flat_bls ?_
  walk_at "go"
  rw [List.length_map, List.length_map, gA.1]
  walk_at "go"
  rw [show ((min ks.length w.wait.length : Nat) : Int).toNat = min ks.length w.wait.length from rfl]
  have hlo : (w.losses + if w.on = true then 1 else 0) = (w.pow ks).losses := by
    show _ = if w.on = true then w.losses + 1 else w.losses
    split <;> omega
  rw [hlo]
  have f5 : Fr H4 (upd H4 wd (HO.dK (W_World.put_losses (V.int (w.pow ks).losses) (wdl w e1 e2 e3)).kv)) [wd] := Fr.refl.updm List.mem_cons_self
  have k5 : Keeps H4 (upd H4 wd (HO.dK (W_World.put_losses (V.int (w.pow ks).losses) (wdl w e1 e2 e3)).kv)) := Keeps.upd hw4 nro_dK
  have sta5 := sta4.keep f5 (by walk_at "nin") (by walk_at "nin")
  have D5 := D4.keepL f5 k5 (by walk_at "nin") (by walk_at "nin") (by walk_at "nin") (by walk_at "nin")
  have g1 := f5.at g1 (by walk_at "nin")
  have g2 := f5.at g2 (by walk_at "nin")
  have g3 := f5.at g3 (by walk_at "nin")
  have glst := glst.keep k5 I.dk.ok.sec
  have gA := gA.keep k5
  have hk5 := f5.at hk4 (by walk_at "nin")
  have hw5 : (upd H4 wd (HO.dK (W_World.put_losses (V.int (w.pow ks).losses) (wdl w e1 e2 e3)).kv)) wd = some (HO.dK (W_World.put_losses (V.int (w.pow ks).losses) (wdl w e1 e2 e3)).kv) := upd_same
  generalize upd H4 wd (HO.dK (W_World.put_losses (V.int (w.pow ks).losses) (wdl w e1 e2 e3)).kv) = H5 at g1 g2 g3 glst gA hk5 hw5 sta5 D5
  refine for_R0 (fun j σ H' => ∃ c, σ = [some (.ref st), some (.ref wd), some (.ref p), c, some (.ref D), some (.ref ps)] ∧ Fr H5 H' [e1] ∧ ∃ kv, H' e1 = some (.dK kv) ∧ Last H' kv (((ks.zip w.wait).take j).foldl stepA w.base) ∧ kv.length ≤ kv4.length + j) ⟨_, rfl, Fr.refl, kv4, g1, glst, by omega⟩ ?_ ?_
  · rintro j σ H' hj ⟨c, rfl, f, kv, hkv, hlast, hlen⟩
    have hj1 : j < ks.length := by omega
    have hj2 : j < w.wait.length := by omega
    have hz : (ks.zip w.wait)[j]? = some (ks[j], w.wait[j]) := by
      rw [List.getElem?_zip_eq_some]
      exact ⟨List.getElem?_eq_getElem hj1, List.getElem?_eq_getElem hj2⟩
    have e5 := fold_succ (f := stepA) (b := w.base) hz
    rw [e5]
    obtain ⟨t', q', z1, z2, z3, z4⟩ := gA.2 j _ (List.getElem?_eq_getElem hj2)
    have hk6 : atI (ks.map V.bl) (j : Int) = some (.bl ks[j]) := atI_nat (by rw [List.getElem?_map, List.getElem?_eq_getElem hj1]; rfl)
    have hA6 : atI (A4.map V.ref) (j : Int) = some (.ref t') := atI_nat (by rw [List.getElem?_map, z1]; rfl)
    have kf : Keeps H5 H' := fun b o e r => f b o e (by intro m; rw [List.mem_singleton.mp m, g1] at e; cases e; exact nro_dK r)
    have y2 := kf _ _ z2 ro_tup
    have y3 := kf _ _ z3 (ro_ints z4)
    have yw := f.at hw5 (by walk_at "nin")
    have ya := f.at g2 (by walk_at "nin")
    have yk := f.at hk5 (by walk_at "nin")
    have i0 : atI [V.int w.wait[j].1, V.ref q'] 0 = some (V.int w.wait[j].1) := atI_nat (j := 0) (by rfl)
    have i1 : atI [V.int w.wait[j].1, V.ref q'] 1 = some (V.ref q') := atI_nat (j := 1) (by rfl)
    have hkl : kv.length < 100000 := by omega
    generalize w.wait[j] = wj at *
    generalize ks[j] = kj at *
    walk_at "go"
    refine if_bool (fun hb => ?_) (fun hb => ?_)
    · subst hb
      walk_at "go"
      refine ⟨_, rfl, f.updm List.mem_cons_self, _, upd_same, ?_, ?_⟩
      · show Last _ _ ((((ks.zip w.wait).take j).foldl stepA w.base).set wj.1 wj.2)
        refine Last.put (Last.keep hlast (Keeps.upd hkv nro_dK) ?_) ?_
        · intro d hd
          rcases foldA_mem hd with h | ⟨x, hx, e⟩
          · exact I.dk.ok.sec d h
          · rw [e]; exact (I.dk.ok.wt x.2 (List.of_mem_zip (List.mem_of_mem_take hx)).2).2
        · rw [upd_ne (fun e => by rw [e, hkv] at y3; cases y3)]
          exact y3
      · have := length_putK kv (Sum.inl (wj.1 : Int)) (V.ref q')
        omega
    · subst hb
      walk_at "go"
      exact ⟨_, rfl, f, kv, hkv, hlast, by omega⟩
  · rintro σ H6 ⟨c, rfl, f, kv, hkv, hlast, hlen⟩
    rw [show (ks.zip w.wait).take (min ks.length w.wait.length) = ks.zip w.wait from by rw [← List.length_zip, List.take_length]] at hlast
    have kf : Keeps H5 H6 := fun b o e r => f b o e (by intro m; rw [List.mem_singleton.mp m, g1] at e; cases e; exact nro_dK r)
    have yw := f.at hw5 (by walk_at "nin")
    have y3 := f.at g3 (by walk_at "nin")
    have y2 := f.at g2 (by walk_at "nin")
    have sta6 := sta5.keep f (by walk_at "nin") (by walk_at "nin")
    have D6 := D5.keepL f kf (by walk_at "nin") (by walk_at "nin") (by walk_at "nin") (by walk_at "nin")
    have wda6 := (WdAt.mk (w := { w with base := arrive ks w.wait w.base, losses := (w.pow ks).losses }) yw ⟨kv, hkv, hlast, Nat.le_refl _⟩ ⟨A4, y2, gA.keep kf⟩ y3 : WdAt H6 wd e1 e2 e3 _ _)
    obtain ⟨⟨dx6, x1⟩, ⟨C1, x2, _⟩, ⟨C2, x3, _⟩, ⟨C3, x4, _⟩, ⟨_, _, _⟩, _⟩ := D6
    have D6 := D5.keepL f kf (by walk_at "nin") (by walk_at "nin") (by walk_at "nin") (by walk_at "nin")
    have sta6' := sta6
    obtain ⟨ns, si, sb, ss, x5, x6, _⟩ := sta6'
    walk_at "go"
    intro pd hpd
    walk_at "go"
    intro nl hnl
    have hnl6 := free_upd hnl
    obtain ⟨_, _, _, _, _, _, _, _, _, _⟩ := fresh10 sta6 wda6 D6 hpd
    obtain ⟨_, _, _, _, _, _, _, _, _, _⟩ := fresh10 sta6 wda6 D6 hnl6
    have npn : pd ≠ nl := ne_of_none upd_same hnl
    walk_at "go"
    refine g_dispK (W_Upd2.kv ⟨.ref nl, .bl true, .non⟩) (by walk_at "hp") rfl (by show 3 ≤ 15; decide) (dm_Upd2 _) ?_
    walk_at "go"
    refine g_dupdM (more := W_Upd2.kv ⟨.ref nl, .bl true, .non⟩) (by walk_at "hp") upd_same (by assumption) (by show 7 + 3 ≤ 1000; decide) (kvs' := W_World.kv (wdl (w.pow ks) e1 nl e3)) ?_ ?_
    · unfold mergeK W_Upd2.kv
      simp only [List.foldl_cons, List.foldl_nil, dp_World_on, dp_World_left, dp_World_waiting]
      rfl
    walk_at "go"
    generalize hH7 : upd (upd (upd (upd H6 pd (HO.dK [])) nl (HO.lst [])) pd (HO.dK (W_Upd2.kv ⟨.ref nl, .bl true, .non⟩))) wd (HO.dK (W_World.kv (wdl (w.pow ks) e1 nl e3))) = H7
    have f7 : Fr H6 H7 [wd] := by rw [← hH7]; walk_at "fr"
    have k7 : Keeps H6 H7 := by rw [← hH7]; walk_at "kp"
    refine q e1 nl e3 l1 m2 m3 (w.pow ks) H7 ⟨sta6.keep f7 (by walk_at "nin") (by walk_at "nin"), ⟨by rw [← hH7]; exact upd_same, ⟨kv, f7.at hkv (by walk_at "nin"), hlast.keep k7 (I.dk.ok.pow ks).sec, ?_⟩, ⟨[], by rw [← hH7]; walk_at "hp", Waits.nil⟩, f7.at y3 (by walk_at "nin")⟩, D6.keepL f7 k7 (by walk_at "nin") (by walk_at "nin") (by walk_at "nin") (by walk_at "nin"), by walk_at "n10"⟩ rfl
    show kv.length + 0 ≤ m + 1
    omega
end
section
variable {K : PySem.W.Frag} {mg : Str → Option Value}
theorem alike_ints {H : Hp} {a b : Addr} {d : List Int} (ea : H a = some (secO d)) (eb : H b = some (secO d)) (l : d.length = 256) : Alike H 3 (.ref a) (.ref b) :=
  .lst ea eb rfl (by rw [List.length_map]; omega) fun i x y hx hy => by
    rw [hx] at hy
    cases hy
    rw [List.getElem?_map] at hx
    obtain ⟨k, _, rfl⟩ := Option.map_eq_some_iff.mp hx
    exact .int k
theorem p_is_right (vs : List V) (H : Hp) (Q : VK) (E : XK) (h : spRight K vs H Q E) : t_is_right K { nx := fun _ H' => Q .non H', rt := Q } (start ["_law_state", "_law_world", "_law_disk", "_law_told", "_law_due", "_law_index", "_law_sector_here", "_law_place", "_law_data"] vs) H := by
  obtain ⟨sa, st, wd, e1, e2, e3, p, l1, l2, l3, m, w, rfl, I, hm, q⟩ := h
  have hb := I.dk.ok.big
  unfold t_is_right
  obtain ⟨dx, hp⟩ := I.dk.ob
  obtain ⟨A, hA, sA⟩ := I.wda.wt
  have hw := I.wda.ob
  have hc := I.wda.ct
  walk_at "go"
  refine ⟨p, l1, l2, l3, w, rfl, I.dk, ?_⟩
  walk_at "go"
  refine ⟨p, l1, l2, l3, w, rfl, I.dk, ?_⟩
  walk_at "go"
  refine ⟨p, l1, l2, l3, w, rfl, I.dk, fun tc htc => ?_⟩
  have s1 : Same H (upd H tc (HO.tup [V.int w.writes, V.int w.syncs])) := same_new htc
  have I1 := I.same s1
  have hp1 := s1 _ _ hp
  have x1 : (upd H tc (HO.tup [V.int w.writes, V.int w.syncs])) tc = some (HO.tup [V.int w.writes, V.int w.syncs]) := upd_same
  generalize upd H tc (HO.tup [V.int w.writes, V.int w.syncs]) = H1 at s1 I1 hp1 x1
  walk_at "go"
  refine ⟨p, l1, l2, l3, w, rfl, I1.dk, ?_⟩
  walk_at "go"
  refine ⟨p, l1, l2, l3, w, rfl, I1.dk, ?_⟩
  walk_at "go"
  intro a1 ha1
  have hw1 := s1 _ _ hw
  have hA1 := s1 _ _ hA
  have hc1 := s1 _ _ hc
  walk_at "go"
  intro tc2 htc2
  walk_at "go"
  intro a2 ha2
  walk_at "go"
  have s2 : Same H1 (upd (upd (upd H1 a1 (HO.lst [V.int ↑w.n, V.int ↑w.wait.length, V.ref tc, V.bl w.on, V.int w.losses])) tc2 (HO.tup [V.int w.writes, V.int w.syncs])) a2 (HO.lst [V.int ↑w.n, V.int ↑(List.map V.ref A).length, V.ref tc2, V.bl w.on, V.int w.losses])) := by walk_at "fr"
  have na : a1 ≠ tc2 := ne_of_none upd_same htc2
  have nb : tc2 ≠ a2 := ne_of_none upd_same ha2
  have nc : a1 ≠ a2 := ne_of_none (o := HO.lst [V.int ↑w.n, V.int ↑w.wait.length, V.ref tc, V.bl w.on, V.int w.losses]) (by rw [upd_ne na]; exact upd_same) ha2
  have z1 := s2 _ _ x1
  have z2 : (upd (upd (upd H1 a1 (HO.lst [V.int ↑w.n, V.int ↑w.wait.length, V.ref tc, V.bl w.on, V.int w.losses])) tc2 (HO.tup [V.int w.writes, V.int w.syncs])) a2 (HO.lst [V.int ↑w.n, V.int ↑(List.map V.ref A).length, V.ref tc2, V.bl w.on, V.int w.losses])) a1 = some (HO.lst [V.int ↑w.n, V.int ↑w.wait.length, V.ref tc, V.bl w.on, V.int w.losses]) := by walk_at "hp"
  have z3 : (upd (upd (upd H1 a1 (HO.lst [V.int ↑w.n, V.int ↑w.wait.length, V.ref tc, V.bl w.on, V.int w.losses])) tc2 (HO.tup [V.int w.writes, V.int w.syncs])) a2 (HO.lst [V.int ↑w.n, V.int ↑(List.map V.ref A).length, V.ref tc2, V.bl w.on, V.int w.losses])) tc2 = some (HO.tup [V.int w.writes, V.int w.syncs]) := by walk_at "hp"
  have z4 : (upd (upd (upd H1 a1 (HO.lst [V.int ↑w.n, V.int ↑w.wait.length, V.ref tc, V.bl w.on, V.int w.losses])) tc2 (HO.tup [V.int w.writes, V.int w.syncs])) a2 (HO.lst [V.int ↑w.n, V.int ↑(List.map V.ref A).length, V.ref tc2, V.bl w.on, V.int w.losses])) a2 = some (HO.lst [V.int ↑w.n, V.int ↑(List.map V.ref A).length, V.ref tc2, V.bl w.on, V.int w.losses]) := upd_same
  generalize (upd (upd (upd H1 a1 (HO.lst [V.int ↑w.n, V.int ↑w.wait.length, V.ref tc, V.bl w.on, V.int w.losses])) tc2 (HO.tup [V.int w.writes, V.int w.syncs])) a2 (HO.lst [V.int ↑w.n, V.int ↑(List.map V.ref A).length, V.ref tc2, V.bl w.on, V.int w.losses])) = H2 at s2 z1 z2 z3 z4
  have al : Alike H2 3 (.ref a1) (.ref a2) := .lst z2 z4 rfl (by show 5 ≤ 1000; decide) fun i x y hx hy => by
    match i, hx, hy with
    | 0, hx, hy => cases hx; cases hy; exact .int _
    | 1, hx, hy =>
      cases hx; cases hy
      rw [List.length_map, sA.1]
      exact .int _
    | 2, hx, hy =>
      cases hx; cases hy
      refine .tup z1 z3 rfl (by show 2 ≤ 1000; decide) fun i x y hx hy => ?_
      rw [hx] at hy
      cases hy
      match i, hx with
      | 0, hx => cases hx; exact .int _
      | 1, hx => cases hx; exact .int _
      | i + 2, hx => cases hx
    | 3, hx, hy => cases hx; cases hy; exact .bl _
    | 4, hx, hy => cases hx; cases hy; exact .int _
    | i + 5, hx, hy => cases hx
  refine ⟨_, _, rfl, al, fun H3 s3 => ?_⟩
  have s13 : Same H H3 := (s1.trans s2).trans s3
  have I3 := I.same s13
  have hp3 := s13 _ _ hp
  have hw3 := s13 _ _ hw
  have hA3 := s13 _ _ hA
  walk_at "go"
  refine' if_ft ?h3 (fun _ n => ?h1)
  case h1 =>
    walk_at "go"
    refine if_not (fun k => absurd rfl k) (fun _ => ?_)
    exact if_Fr n
  walk_at "go"
  have hsA : SqL K H3 e2 (A.map V.ref) := SqL.of hA3
  refine lc_L (A.map V.ref) (fun D j H' => Same H3 H' ∧ H3 D = none ∧ ∃ ys, H' D = some (.lst ys) ∧ ys.length = j ∧ ∀ (k : Nat) (y : V), ys[k]? = some y → ∃ i : Nat, y = V.int i ∧ i < w.n)
    (fun D hD => ⟨same_new hD, hD, [], upd_same, rfl, fun k y e => by simp at e⟩) (fun D j H' _ ⟨s, _⟩ => s.seq hsA) (fun D j x H' hx ⟨s, hD, ys, h1, h2, h3⟩ => ?_) (fun D H4 ⟨s4, hD, ys, h1, h2, h3⟩ => ?_)
  · rw [List.getElem?_map] at hx
    obtain ⟨t, ht, rfl⟩ := Option.map_eq_some_iff.mp hx
    have hlt : j < w.wait.length := by rw [← sA.1]; exact (List.getElem?_eq_some_iff.mp ht).1
    obtain ⟨t', q', k1, k2, k3, k4⟩ := sA.2 j _ (List.getElem?_eq_getElem hlt)
    rw [ht] at k1
    cases k1
    have g2 := s _ _ (s13 _ _ k2)
    have hwl := (I.dk.ok.wt _ (List.getElem_mem hlt)).1
    generalize w.wait[j] = wj at *
    have hj : j < 1000 := by
      obtain ⟨_, ⟨_, _, _, h⟩, _⟩ := I.wda
      omega
    walk_at "go"
    refine ⟨rfl, g_yesT ?_⟩
    rw [if_pos rfl]
    walk_at "go"
    refine ⟨ys, h1, Nat.lt_of_le_of_lt (show ys.length ≤ 1000 by omega) (by decide), Same.updf s hD, hD, _, upd_same, by rw [List.length_append, h2]; rfl, fun k y e => ?_⟩
    by_cases hk : k < ys.length
    · rw [List.getElem?_append_left hk] at e
      exact h3 k y e
    · rw [List.getElem?_append_right (by omega)] at e
      cases z : k - ys.length with
      | zero => rw [z] at e; cases e; exact ⟨_, rfl, hwl⟩
      | succ n => rw [z] at e; cases e
  have I4 := I3.same s4
  have hw4 := s4 _ _ hw3
  have nD := fresh10 I3.sta I3.wda I3.dk hD
  walk_at "go"
  refine ⟨st, sa, w.n, rfl, I4.sta, by omega, by omega, fun r x hr0 hr1 _ hs => ?_⟩
  have I5 := I4.stp hs
  have h1' : (upd H4 st x) D = some (.lst ys) := by rw [upd_ne nD.2.1.symm]; exact h1
  generalize upd H4 st x = H5 at I5 h1'
  walk_at "go"
  intro lb hlb
  have nDb : D ≠ lb := ne_of_none h1' hlb
  rw [List.length_map] at h2
  refine v_cat (by walk_at "hp") upd_same (by rw [h2, sA.1]; show _ + 3 ≤ 100000; obtain ⟨_, ⟨_, _, _, h⟩, _⟩ := I.wda; omega) fun pc hpc => ?_
  have nbc : lb ≠ pc := ne_of_none upd_same hpc
  have s6 : Same H5 (upd (upd H5 lb (HO.lst [V.int r, V.int 0, V.int 1])) pc (HO.lst (ys ++ [V.int r, V.int 0, V.int 1]))) := by walk_at "fr"
  have hcat : (upd (upd H5 lb (HO.lst [V.int r, V.int 0, V.int 1])) pc (HO.lst (ys ++ [V.int r, V.int 0, V.int 1]))) pc = some (HO.lst (ys ++ [V.int r, V.int 0, V.int 1])) := upd_same
  have I6 := I5.same s6
  generalize (upd (upd H5 lb (HO.lst [V.int r, V.int 0, V.int 1])) pc (HO.lst (ys ++ [V.int r, V.int 0, V.int 1]))) = H6 at s6 hcat I6
  have hall : ∀ (k : Nat) (y : V), (ys ++ [V.int r, V.int 0, V.int 1])[k]? = some y → ∃ i : Nat, y = .int i ∧ i < w.n := by
    intro k y e
    by_cases hk : k < ys.length
    · rw [List.getElem?_append_left hk] at e
      exact h3 k y e
    · rw [List.getElem?_append_right (by omega)] at e
      match k - ys.length, e with
      | 0, e => cases e; exact ⟨r.toNat, by rw [show ((r.toNat : Nat) : Int) = r by omega], by omega⟩
      | 1, e => cases e; exact ⟨0, rfl, by omega⟩
      | 2, e => cases e; exact ⟨1, rfl, by omega⟩
      | n + 3, e => cases e
  generalize ys ++ [V.int r, V.int 0, V.int 1] = zs at hcat hall
  walk_at "go"
  refine for_L zs (fun j σ H' => ∃ c1 c2, σ = [some (.ref st), some (.ref wd), some (.ref p), some (.ref a1), some (.ref a2), c1, c2, none, none] ∧ Same H6 H') ⟨_, _, rfl, Same.refl _⟩ (fun j σ H' _ ⟨_, _, _, s⟩ => SqL.of (s _ _ hcat)) ?_ ?_
  · rintro j x σ H' hx ⟨c1, c2, rfl, s⟩
    obtain ⟨i, rfl, hi⟩ := hall j x hx
    have J := I6.same s
    obtain ⟨dx7, hp7⟩ := J.dk.ob
    have hsi : i < w.seen.length := by rw [I.dk.ok.seen_len]; exact hi
    have hd : w.seen[i]? = some w.seen[i] := List.getElem?_eq_getElem hsi
    have hdl : w.seen[i].length = 256 := I.dk.ok.seen_sec _ (List.getElem_mem _)
    generalize w.seen[i] = d at hd hdl
    walk_at "go"
    refine ⟨p, l1, l2, l3, w, i, d, rfl, J.dk, hd, fun hq hhq => ?_⟩
    have s7 : Same H' (upd H' hq (secO d)) := same_new hhq
    have z1 : (upd H' hq (secO d)) hq = some (secO d) := upd_same
    have J7 := J.same s7
    generalize upd H' hq (secO d) = H7 at s7 z1 J7
    walk_at "go"
    refine ⟨wd, e1, e2, e3, m, w, i, d, rfl, J7.wda, I.dk.ok, hd, fun q2 H8 hq2 s8 => ?_⟩
    walk_at "go"
    refine ⟨_, _, rfl, alike_ints (s8 _ _ z1) hq2 hdl, fun H9 s9 => ?_⟩
    have z9 := s9 _ _ (s8 _ _ z1)
    have hix : ixN (d.map V.int).length 5 = some 5 := by rw [List.length_map, hdl]; rfl
    have hfr : H6 hq = none := s.free hhq
    walk_at "go"
    exact ⟨_, _, rfl, Same.updf (((s.trans s7).trans s8).trans s9) hfr⟩
  · rintro σ H' ⟨c1, c2, rfl, s⟩
    walk_at "go"
    exact q H' (I6.same s)
end
section
variable {K : PySem.W.Frag} {mg : Str → Option Value}
theorem p_law (T : Tx K mg) (vs : List V) (H : Hp) (Q : VK) (E : XK) (h : spLaw K vs H Q E) : t_law K { nx := fun _ H' => Q .non H', rt := Q } (start ["_law_script", "_law_state", "_law_size", "_law_disk", "_law_world", "_law_k", "_law_index"] vs) H := by
  obtain ⟨a, ns, rfl, ha, hns, q⟩ := h
  unfold t_law
  walk_at "go"
  refine ⟨a, _, rfl, .inl ha, fun sa hsa => ?_⟩
  walk_at "go"
  intro st hst
  have nss : sa ≠ st := ne_of_none upd_same hst
  have S0 : StA (upd (upd H sa (HO.lst (ns.map V.int))) st (HO.lst [V.ref sa, V.int 0, V.int 0, V.int 1])) st sa := ⟨ns, 0, 0, 1, upd_same, by walk_at "hp", by decide, by decide, by decide, by decide⟩
  generalize upd (upd H sa (HO.lst (ns.map V.int))) st (HO.lst [V.ref sa, V.int 0, V.int 0, V.int 1]) = H1 at S0
  walk_at "go"
  refine ⟨st, sa, 120, rfl, S0, by decide, by decide, fun r1 x1 hr1 _ _ S1 => ?_⟩
  generalize upd H1 st x1 = H2 at S1
  walk_at "go"
  refine ⟨st, sa, 70, rfl, S1, by decide, by decide, fun r2 x2 hr2 _ _ S2 => ?_⟩
  generalize upd H2 st x2 = H3 at S2
  walk_at "go"
  intro hl hhl
  walk_at "go"
  intro sl hsl
  have s4 : Same H3 (upd (upd H3 hl (HO.lst [V.int 100])) sl (HO.lst [V.int (99 - r1), V.int (601 + r2), V.bl true, V.str "100", V.non, V.ref hl])) := by walk_at "fr"
  have nhs : hl ≠ sl := ne_of_none upd_same hsl
  have z1 : (upd (upd H3 hl (HO.lst [V.int 100])) sl (HO.lst [V.int (99 - r1), V.int (601 + r2), V.bl true, V.str "100", V.non, V.ref hl])) hl = some (HO.lst [V.int 100]) := by walk_at "hp"
  have z2 : (upd (upd H3 hl (HO.lst [V.int 100])) sl (HO.lst [V.int (99 - r1), V.int (601 + r2), V.bl true, V.str "100", V.non, V.ref hl])) sl = some (HO.lst [V.int (99 - r1), V.int (601 + r2), V.bl true, V.str "100", V.non, V.ref hl]) := upd_same
  have S4 := S2.keep (Fr.of_same s4) (L := []) (by simp) (by simp)
  generalize upd (upd H3 hl (HO.lst [V.int 100])) sl (HO.lst [V.int (99 - r1), V.int (601 + r2), V.bl true, V.str "100", V.non, V.ref hl]) = H4 at s4 z1 z2 S4
  walk_at "go"
  refine for_L [V.int (99 - r1), V.int (601 + r2), V.bl true, V.str "100", V.non, V.ref hl] (fun i σ H' => ∃ c, σ = [some (.ref a), some (.ref st), c, none, none, none, none] ∧ Same H4 H') ⟨_, rfl, Same.refl _⟩ (fun i σ H' _ ⟨_, _, s⟩ => SqL.of (s _ _ z2)) ?_ ?_
  · rintro i x σ H' hx ⟨c, rfl, s⟩
    have bad : BadSize H' x := by
      match i, hx with
      | 0, hx => cases hx; exact .inl ⟨_, rfl, .inl (by omega)⟩
      | 1, hx => cases hx; exact .inl ⟨_, rfl, .inr (by omega)⟩
      | 2, hx => cases hx; exact .inr (.inl ⟨_, rfl⟩)
      | 3, hx => cases hx; exact .inr (.inr (.inl ⟨_, rfl⟩))
      | 4, hx => cases hx; exact .inr (.inr (.inr (.inl rfl)))
      | 5, hx => cases hx; exact .inr (.inr (.inr (.inr ⟨_, _, rfl, s _ _ z1⟩)))
      | i + 6, hx => cases hx
    walk_at "go"
    refine ⟨x, rfl, bad, fun H5 s5 => ?_⟩
    walk_at "go"
    exact ⟨_, rfl, s.trans s5⟩
  rintro σ H5 ⟨c, rfl, s5⟩
  have S5 := S4.keep (Fr.of_same s5) (L := []) (by simp) (by simp)
  walk_at "go"
  refine ⟨st, sa, 501, rfl, S5, by decide, by decide, fun r3 x3 h30 h31 _ S6 => ?_⟩
  generalize upd H5 st x3 = H6 at S6
  walk_at "go"
  intro cl hcl
  have S7 := S6.keep (Fr.of_same (same_new (o := (HO.lst [V.int 100, V.int 101, V.int 600, V.int (100 + r3)])) hcl)) (L := []) (by simp) (by simp)
  have zc : (upd H6 cl (HO.lst [V.int 100, V.int 101, V.int 600, V.int (100 + r3)])) cl = some (HO.lst [V.int 100, V.int 101, V.int 600, V.int (100 + r3)]) := upd_same
  obtain ⟨_, _, _, _, y1, y2, _⟩ := S6
  have nsc : st ≠ cl := ne_of_none y1 hcl
  generalize upd H6 cl (HO.lst [V.int 100, V.int 101, V.int 600, V.int (100 + r3)]) = H7 at S7 zc
  walk_at "go"
  refine ⟨st, sa, 4, rfl, S7, by decide, by decide, fun r4 x4 h40 h41 _ S8 => ?_⟩
  have zc' : (upd H7 st x4) cl = some (HO.lst [V.int 100, V.int 101, V.int 600, V.int (100 + r3)]) := by rw [upd_ne nsc.symm]; exact zc
  generalize upd H7 st x4 = H8 at S8 zc'
  obtain ⟨n, hn1, hn2, hidx⟩ : ∃ n : Nat, 100 ≤ n ∧ n ≤ 600 ∧ atI [V.int 100, V.int 101, V.int 600, V.int (100 + r3)] r4 = some (.int n) := by
    have : r4 = 0 ∨ r4 = 1 ∨ r4 = 2 ∨ r4 = 3 := by omega
    rcases this with rfl | rfl | rfl | rfl
    · exact ⟨100, by omega, by omega, rfl⟩
    · exact ⟨101, by omega, by omega, rfl⟩
    · exact ⟨600, by omega, by omega, rfl⟩
    · exact ⟨(100 + r3).toNat, by omega, by omega, by rw [show (((100 + r3).toNat : Nat) : Int) = 100 + r3 by omega]; rfl⟩
  walk_at "go"
  intro p pdx hp hpdx nxd
  refine ⟨p, pdx, .int n, rfl, upd_same, .inl ⟨n, rfl, hn1, hn2, fun l1 l2 l3 H9 D9 f9 k1 k2 k3 => ⟨rfl, ?_⟩⟩⟩
  have sN : Same H8 (upd (upd H8 pdx (HO.own p)) p (HO.ins (He.ga K "Disk") pdx [])) := by walk_at "fr"
  have S8' := S8.keep (Fr.of_same sN) (L := []) (by simp) (by simp)
  obtain ⟨_, _, _, _, u1, u2, _⟩ := S8
  have m1 : st ≠ p := ne_of_none u1 hp
  have m2 : sa ≠ p := ne_of_none u2 hp
  have S9 := S8'.keep f9 (q3 m1) (q3 m2)
  have v1 := sN _ _ u1
  have v2 := sN _ _ u2
  obtain ⟨dx, w1⟩ := D9.ob
  obtain ⟨C1, w2, _⟩ := D9.s1
  obtain ⟨C2, w3, _⟩ := D9.s2
  obtain ⟨C3, w4, _⟩ := D9.s3
  obtain ⟨_, _, _⟩ := D9.nd
  have m3 : st ≠ l1 := ne_of_none v1 k1
  have m4 : st ≠ l2 := ne_of_none v1 k2
  have m5 : st ≠ l3 := ne_of_none v1 k3
  have m6 : sa ≠ l1 := ne_of_none v2 k1
  have m7 : sa ≠ l2 := ne_of_none v2 k2
  have m8 : sa ≠ l3 := ne_of_none v2 k3
  have m9 : p ≠ l1 := ne_of_none upd_same k1
  have m10 : p ≠ l2 := ne_of_none upd_same k2
  have m11 : p ≠ l3 := ne_of_none upd_same k3
  have S9c := S9
  obtain ⟨_, _, _, _, t1, t2, _⟩ := S9
  walk_at "go"
  intro wd hwd
  walk_at "go"
  intro e1 he1
  walk_at "go"
  intro e2 he2
  walk_at "go"
  intro e3 he3
  walk_at "go"
  have b1 : H9 e1 = none := by walk_at "fre"
  have b2 : H9 e2 = none := by walk_at "fre"
  have b3 : H9 e3 = none := by walk_at "fre"
  have d1 : wd ≠ e1 := ne_of_none upd_same he1
  have d2 : e1 ≠ e2 := ne_of_none upd_same he2
  have d3 : e2 ≠ e3 := ne_of_none upd_same he3
  have d4 : wd ≠ e2 := ne_of_none (o := HO.dK []) (by walk_at "hp") he2
  have d5 : wd ≠ e3 := ne_of_none (o := HO.dK []) (by walk_at "hp") he3
  have d6 : e1 ≠ e3 := ne_of_none (o := HO.dK []) (by walk_at "hp") he3
  refine g_dispK (W_World.kv (wdl (PW.new n) e1 e2 e3)) (by walk_at "hp") rfl (by show 7 ≤ 15; decide) (dm_World _) ?_
  have s10 : Same H9 (upd (upd (upd (upd (upd H9 wd (HO.dK [])) e1 (HO.dK [])) e2 (HO.lst [])) e3 (HO.lst [V.int 0, V.int 0])) wd (HO.dK (W_World.kv (wdl (PW.new n) e1 e2 e3)))) := by walk_at "fr"
  have g1 : st ≠ wd := ne_of_none t1 hwd
  have g2 : st ≠ e1 := ne_of_none t1 b1
  have g3 : st ≠ e2 := ne_of_none t1 b2
  have g4 : st ≠ e3 := ne_of_none t1 b3
  have g5 : sa ≠ wd := ne_of_none t2 hwd
  have g6 : sa ≠ e1 := ne_of_none t2 b1
  have g7 : sa ≠ e2 := ne_of_none t2 b2
  have g8 : sa ≠ e3 := ne_of_none t2 b3
  have i1 : p ≠ wd := ne_of_none w1 hwd
  have i2 : p ≠ e1 := ne_of_none w1 b1
  have i3 : p ≠ e2 := ne_of_none w1 b2
  have i4 : p ≠ e3 := ne_of_none w1 b3
  have j1 : l1 ≠ wd := ne_of_none w2 hwd
  have j2 : l1 ≠ e1 := ne_of_none w2 b1
  have j3 : l1 ≠ e2 := ne_of_none w2 b2
  have j4 : l1 ≠ e3 := ne_of_none w2 b3
  have o1 : l2 ≠ wd := ne_of_none w3 hwd
  have o2 : l2 ≠ e1 := ne_of_none w3 b1
  have o3 : l2 ≠ e2 := ne_of_none w3 b2
  have o4 : l2 ≠ e3 := ne_of_none w3 b3
  have r1 : l3 ≠ wd := ne_of_none w4 hwd
  have r2 : l3 ≠ e1 := ne_of_none w4 b1
  have r3 : l3 ≠ e2 := ne_of_none w4 b2
  have r4 : l3 ≠ e3 := ne_of_none w4 b3
  have nss' : sa ≠ st := nss
  have I0 : Inv0 K (upd (upd (upd (upd (upd H9 wd (HO.dK [])) e1 (HO.dK [])) e2 (HO.lst [])) e3 (HO.lst [V.int 0, V.int 0])) wd (HO.dK (W_World.kv (wdl (PW.new n) e1 e2 e3)))) sa st wd e1 e2 e3 p l1 l2 l3 0 (PW.new n) := by
    refine ⟨S9c.keep (Fr.of_same s10) (L := []) (by simp) (by simp), ⟨upd_same, ⟨[], by walk_at "hp", fun i d e => .inl ⟨rfl, ?_⟩, Nat.le_refl _⟩, ⟨[], by walk_at "hp", Waits.nil⟩, by walk_at "hp"⟩, D9.keepL (L := []) (Fr.of_same s10) (Keeps.of_same s10) (by simp) (by simp) (by simp) (by simp), by walk_at "n10"⟩
    exact List.eq_of_mem_replicate (List.mem_of_getElem? e)
  generalize (upd (upd (upd (upd (upd H9 wd (HO.dK [])) e1 (HO.dK [])) e2 (HO.lst [])) e3 (HO.lst [V.int 0, V.int 0])) wd (HO.dK (W_World.kv (wdl (PW.new n) e1 e2 e3)))) = H10 at I0
  obtain ⟨dx10, hp10⟩ := I0.dk.ob
  walk_at "go"
  refine if_not (fun k => absurd rfl k) (fun _ => ?_)
  walk_at "go"
  refine ⟨st, sa, 41, rfl, I0.sta, by decide, by decide, fun r5 x5 h50 h51 _ hs => ?_⟩
  have I1 := I0.stp hs
  generalize upd H10 st x5 = H11 at I1
  walk_at "go"
  refine for_R0 (fun i σ H' => ∃ c d f1 f2 f3 k1 k2 k3 w', σ = [some (.ref a), some (.ref st), some (.int n), some (.ref p), some (.ref wd), c, d] ∧ Inv0 K H' sa st wd f1 f2 f3 p k1 k2 k3 i w' ∧ w'.n = n) ⟨_, _, e1, e2, e3, l1, l2, l3, _, rfl, I1, rfl⟩ ?_ ?_
  · rintro i σ H' hi ⟨c', d', f1, f2, f3, k1, k2, k3, w', rfl, J, hn⟩
    have hi2 : i ≤ 500 := by omega
    walk_at "go"
    refine ⟨sa, st, wd, f1, f2, f3, p, k1, k2, k3, i, w', rfl, J, hi2, fun H2 J2 => ?_⟩
    walk_at "go"
    refine ⟨sa, st, wd, f1, f2, f3, p, k1, k2, k3, i, w', rfl, J2, hi2, fun f1 f2 f3 k1 k2 k3 w2 H3 J3 hn3 => ?_⟩
    walk_at "go"
    exact ⟨_, _, f1, f2, f3, k1, k2, k3, w2, rfl, J3, hn3.trans hn⟩
  rintro σ H12 ⟨c', d', f1, f2, f3, k1, k2, k3, w', rfl, J, hn⟩
  have hm : r5.toNat ≤ 500 := by omega
  generalize r5.toNat = m at J hm
  walk_at "go"
  refine for_R0 (fun i σ H' => ∃ d, σ = [some (.ref a), some (.ref st), some (.int n), some (.ref p), some (.ref wd), c', d] ∧ Inv0 K H' sa st wd f1 f2 f3 p k1 k2 k3 m w') ⟨_, rfl, J⟩ ?_ ?_
  · rintro i σ H' hi ⟨d, rfl, J⟩
    obtain ⟨dx7, hp7⟩ := J.dk.ob
    have hsi : i < w'.seen.length := by rw [J.dk.ok.seen_len, hn]; omega
    have hd : w'.seen[i]? = some w'.seen[i] := List.getElem?_eq_getElem hsi
    generalize w'.seen[i] = ds at hd
    walk_at "go"
    refine ⟨p, k1, k2, k3, w', i, ds, rfl, J.dk, hd, fun hq hhq => ?_⟩
    have s7 : Same H' (upd H' hq (secO ds)) := same_new hhq
    have z1 : (upd H' hq (secO ds)) hq = some (secO ds) := upd_same
    have J7 := J.same s7
    generalize upd H' hq (secO ds) = H7 at s7 z1 J7
    walk_at "go"
    refine ⟨wd, f1, f2, f3, m, w', i, ds, rfl, J7.wda, J.dk.ok, hd, fun q2 H8 hq2 s8 => ?_⟩
    refine v_neDL (s8 _ _ z1) hq2 flat_ints ?_
    walk_at "go"
    exact ⟨_, rfl, J7.same s8⟩
  rintro σ H13 ⟨d, rfl, J⟩
  walk_at "go"
  exact ⟨sa, st, wd, f1, f2, f3, p, k1, k2, k3, m, w', rfl, J, hm, fun H14 _ => q H14⟩
end
section
variable {P : Program} {w : World} {K : PySem.W.Frag} {mg : Str → Option Value} {base : Heap}
theorem con_Disk_init (T : Tx K mg) : Con P w K mg base (L2.CX P w) 1 ("Disk", some "__init__") ["self", "sectors"] (spDInit K) := by
  obtain ⟨fd, F⟩ := T.c.def_ 0 (d := D_Disk_init) rfl
  exact ⟨⟨fd, F.ok sc_Disk_init (fun vs H Q E h => by first | (obtain ⟨rfl, _⟩ := h; rfl) | (obtain ⟨_, rfl, _⟩ := h; rfl) | (obtain ⟨_, _, rfl, _⟩ := h; rfl) | (obtain ⟨_, _, _, rfl, _⟩ := h; rfl) | (obtain ⟨_, _, _, _, rfl, _⟩ := h; rfl) | (obtain ⟨_, _, _, _, _, rfl, _⟩ := h; rfl) | (obtain ⟨_, _, _, _, _, _, rfl, _⟩ := h; rfl) | (obtain ⟨_, _, _, _, _, _, _, rfl, _⟩ := h; rfl) | (obtain ⟨_, _, _, _, _, _, _, _, rfl, _⟩ := h; rfl) | (obtain ⟨_, _, _, _, _, _, _, _, _, rfl, _⟩ := h; rfl) | (obtain ⟨_, _, _, _, _, _, _, _, _, _, rfl, _⟩ := h; rfl) | (obtain ⟨_, _, _, _, _, _, _, _, _, _, _, rfl, _⟩ := h; rfl) | (obtain ⟨_, _, _, _, _, _, _, _, _, _, _, _, rfl, _⟩ := h; rfl) | (obtain ⟨_, _, _, _, _, _, _, _, _, _, _, _, _, rfl, _⟩ := h; rfl) | (obtain ⟨_, _, _, _, _, _, _, _, _, _, _, _, _, _, rfl, _⟩ := h; rfl) | (obtain ⟨_, _, _, _, _, _, _, _, _, _, _, _, _, _, _, rfl, _⟩ := h; rfl)) (fun cdv A outer s H vs Q E hr h => ⟨t_Disk_init K E, d_Disk_init T  hr, p_Disk_init  vs H Q E h⟩), F.bindsN fun _ _ _ _ _ _ us hl => match us, hl with | [_, _], _ => rfl⟩, F.kp⟩
theorem con_Disk_size (T : Tx K mg) : Con P w K mg base CX0 1 ("Disk", some "size") ["self"] (spDSize K) := by
  obtain ⟨fd, F⟩ := T.c.def_ 1 (d := D_Disk_size) rfl
  exact ⟨⟨fd, F.ok sc_Disk_size (fun vs H Q E h => by first | (obtain ⟨rfl, _⟩ := h; rfl) | (obtain ⟨_, rfl, _⟩ := h; rfl) | (obtain ⟨_, _, rfl, _⟩ := h; rfl) | (obtain ⟨_, _, _, rfl, _⟩ := h; rfl) | (obtain ⟨_, _, _, _, rfl, _⟩ := h; rfl) | (obtain ⟨_, _, _, _, _, rfl, _⟩ := h; rfl) | (obtain ⟨_, _, _, _, _, _, rfl, _⟩ := h; rfl) | (obtain ⟨_, _, _, _, _, _, _, rfl, _⟩ := h; rfl) | (obtain ⟨_, _, _, _, _, _, _, _, rfl, _⟩ := h; rfl) | (obtain ⟨_, _, _, _, _, _, _, _, _, rfl, _⟩ := h; rfl) | (obtain ⟨_, _, _, _, _, _, _, _, _, _, rfl, _⟩ := h; rfl) | (obtain ⟨_, _, _, _, _, _, _, _, _, _, _, rfl, _⟩ := h; rfl) | (obtain ⟨_, _, _, _, _, _, _, _, _, _, _, _, rfl, _⟩ := h; rfl) | (obtain ⟨_, _, _, _, _, _, _, _, _, _, _, _, _, rfl, _⟩ := h; rfl) | (obtain ⟨_, _, _, _, _, _, _, _, _, _, _, _, _, _, rfl, _⟩ := h; rfl) | (obtain ⟨_, _, _, _, _, _, _, _, _, _, _, _, _, _, _, rfl, _⟩ := h; rfl)) (fun cdv A outer s H vs Q E hr h => ⟨t_Disk_size K, PSs.nox (d_Disk_size T  hr), p_Disk_size  vs H Q E h⟩), F.bindsN fun _ _ _ _ _ _ us hl => match us, hl with | [_], _ => rfl⟩, F.kp⟩
theorem con_Disk_read (T : Tx K mg) : Con P w K mg base CX0 1 ("Disk", some "read") ["self", "index"] (spDRead K) := by
  obtain ⟨fd, F⟩ := T.c.def_ 2 (d := D_Disk_read) rfl
  exact ⟨⟨fd, F.ok sc_Disk_read (fun vs H Q E h => by first | (obtain ⟨rfl, _⟩ := h; rfl) | (obtain ⟨_, rfl, _⟩ := h; rfl) | (obtain ⟨_, _, rfl, _⟩ := h; rfl) | (obtain ⟨_, _, _, rfl, _⟩ := h; rfl) | (obtain ⟨_, _, _, _, rfl, _⟩ := h; rfl) | (obtain ⟨_, _, _, _, _, rfl, _⟩ := h; rfl) | (obtain ⟨_, _, _, _, _, _, rfl, _⟩ := h; rfl) | (obtain ⟨_, _, _, _, _, _, _, rfl, _⟩ := h; rfl) | (obtain ⟨_, _, _, _, _, _, _, _, rfl, _⟩ := h; rfl) | (obtain ⟨_, _, _, _, _, _, _, _, _, rfl, _⟩ := h; rfl) | (obtain ⟨_, _, _, _, _, _, _, _, _, _, rfl, _⟩ := h; rfl) | (obtain ⟨_, _, _, _, _, _, _, _, _, _, _, rfl, _⟩ := h; rfl) | (obtain ⟨_, _, _, _, _, _, _, _, _, _, _, _, rfl, _⟩ := h; rfl) | (obtain ⟨_, _, _, _, _, _, _, _, _, _, _, _, _, rfl, _⟩ := h; rfl) | (obtain ⟨_, _, _, _, _, _, _, _, _, _, _, _, _, _, rfl, _⟩ := h; rfl) | (obtain ⟨_, _, _, _, _, _, _, _, _, _, _, _, _, _, _, rfl, _⟩ := h; rfl)) (fun cdv A outer s H vs Q E hr h => ⟨t_Disk_read K, PSs.nox (d_Disk_read T  hr), p_Disk_read  vs H Q E h⟩), F.bindsN fun _ _ _ _ _ _ us hl => match us, hl with | [_, _], _ => rfl⟩, F.kp⟩
theorem con_Disk_pending (T : Tx K mg) : Con P w K mg base CX0 1 ("Disk", some "pending") ["self"] (spDPending K) := by
  obtain ⟨fd, F⟩ := T.c.def_ 3 (d := D_Disk_pending) rfl
  exact ⟨⟨fd, F.ok sc_Disk_pending (fun vs H Q E h => by first | (obtain ⟨rfl, _⟩ := h; rfl) | (obtain ⟨_, rfl, _⟩ := h; rfl) | (obtain ⟨_, _, rfl, _⟩ := h; rfl) | (obtain ⟨_, _, _, rfl, _⟩ := h; rfl) | (obtain ⟨_, _, _, _, rfl, _⟩ := h; rfl) | (obtain ⟨_, _, _, _, _, rfl, _⟩ := h; rfl) | (obtain ⟨_, _, _, _, _, _, rfl, _⟩ := h; rfl) | (obtain ⟨_, _, _, _, _, _, _, rfl, _⟩ := h; rfl) | (obtain ⟨_, _, _, _, _, _, _, _, rfl, _⟩ := h; rfl) | (obtain ⟨_, _, _, _, _, _, _, _, _, rfl, _⟩ := h; rfl) | (obtain ⟨_, _, _, _, _, _, _, _, _, _, rfl, _⟩ := h; rfl) | (obtain ⟨_, _, _, _, _, _, _, _, _, _, _, rfl, _⟩ := h; rfl) | (obtain ⟨_, _, _, _, _, _, _, _, _, _, _, _, rfl, _⟩ := h; rfl) | (obtain ⟨_, _, _, _, _, _, _, _, _, _, _, _, _, rfl, _⟩ := h; rfl) | (obtain ⟨_, _, _, _, _, _, _, _, _, _, _, _, _, _, rfl, _⟩ := h; rfl) | (obtain ⟨_, _, _, _, _, _, _, _, _, _, _, _, _, _, _, rfl, _⟩ := h; rfl)) (fun cdv A outer s H vs Q E hr h => ⟨t_Disk_pending K, PSs.nox (d_Disk_pending T  hr), p_Disk_pending  vs H Q E h⟩), F.bindsN fun _ _ _ _ _ _ us hl => match us, hl with | [_], _ => rfl⟩, F.kp⟩
theorem con_Disk_counts (T : Tx K mg) : Con P w K mg base CX0 1 ("Disk", some "counts") ["self"] (spDCounts K) := by
  obtain ⟨fd, F⟩ := T.c.def_ 4 (d := D_Disk_counts) rfl
  exact ⟨⟨fd, F.ok sc_Disk_counts (fun vs H Q E h => by first | (obtain ⟨rfl, _⟩ := h; rfl) | (obtain ⟨_, rfl, _⟩ := h; rfl) | (obtain ⟨_, _, rfl, _⟩ := h; rfl) | (obtain ⟨_, _, _, rfl, _⟩ := h; rfl) | (obtain ⟨_, _, _, _, rfl, _⟩ := h; rfl) | (obtain ⟨_, _, _, _, _, rfl, _⟩ := h; rfl) | (obtain ⟨_, _, _, _, _, _, rfl, _⟩ := h; rfl) | (obtain ⟨_, _, _, _, _, _, _, rfl, _⟩ := h; rfl) | (obtain ⟨_, _, _, _, _, _, _, _, rfl, _⟩ := h; rfl) | (obtain ⟨_, _, _, _, _, _, _, _, _, rfl, _⟩ := h; rfl) | (obtain ⟨_, _, _, _, _, _, _, _, _, _, rfl, _⟩ := h; rfl) | (obtain ⟨_, _, _, _, _, _, _, _, _, _, _, rfl, _⟩ := h; rfl) | (obtain ⟨_, _, _, _, _, _, _, _, _, _, _, _, rfl, _⟩ := h; rfl) | (obtain ⟨_, _, _, _, _, _, _, _, _, _, _, _, _, rfl, _⟩ := h; rfl) | (obtain ⟨_, _, _, _, _, _, _, _, _, _, _, _, _, _, rfl, _⟩ := h; rfl) | (obtain ⟨_, _, _, _, _, _, _, _, _, _, _, _, _, _, _, rfl, _⟩ := h; rfl)) (fun cdv A outer s H vs Q E hr h => ⟨t_Disk_counts K, PSs.nox (d_Disk_counts T  hr), p_Disk_counts  vs H Q E h⟩), F.bindsN fun _ _ _ _ _ _ us hl => match us, hl with | [_], _ => rfl⟩, F.kp⟩
theorem con_Disk_lose_power (T : Tx K mg) : Con P w K mg base CX0 1 ("Disk", some "lose_power") ["self"] (spDLose K) := by
  obtain ⟨fd, F⟩ := T.c.def_ 5 (d := D_Disk_lose_power) rfl
  exact ⟨⟨fd, F.ok sc_Disk_lose_power (fun vs H Q E h => by first | (obtain ⟨rfl, _⟩ := h; rfl) | (obtain ⟨_, rfl, _⟩ := h; rfl) | (obtain ⟨_, _, rfl, _⟩ := h; rfl) | (obtain ⟨_, _, _, rfl, _⟩ := h; rfl) | (obtain ⟨_, _, _, _, rfl, _⟩ := h; rfl) | (obtain ⟨_, _, _, _, _, rfl, _⟩ := h; rfl) | (obtain ⟨_, _, _, _, _, _, rfl, _⟩ := h; rfl) | (obtain ⟨_, _, _, _, _, _, _, rfl, _⟩ := h; rfl) | (obtain ⟨_, _, _, _, _, _, _, _, rfl, _⟩ := h; rfl) | (obtain ⟨_, _, _, _, _, _, _, _, _, rfl, _⟩ := h; rfl) | (obtain ⟨_, _, _, _, _, _, _, _, _, _, rfl, _⟩ := h; rfl) | (obtain ⟨_, _, _, _, _, _, _, _, _, _, _, rfl, _⟩ := h; rfl) | (obtain ⟨_, _, _, _, _, _, _, _, _, _, _, _, rfl, _⟩ := h; rfl) | (obtain ⟨_, _, _, _, _, _, _, _, _, _, _, _, _, rfl, _⟩ := h; rfl) | (obtain ⟨_, _, _, _, _, _, _, _, _, _, _, _, _, _, rfl, _⟩ := h; rfl) | (obtain ⟨_, _, _, _, _, _, _, _, _, _, _, _, _, _, _, rfl, _⟩ := h; rfl)) (fun cdv A outer s H vs Q E hr h => ⟨t_Disk_lose_power K, PSs.nox (d_Disk_lose_power T  hr), p_Disk_lose_power  vs H Q E h⟩), F.bindsN fun _ _ _ _ _ _ us hl => match us, hl with | [_], _ => rfl⟩, F.kp⟩
theorem con_Disk_operate (T : Tx K mg) : Con P w K mg base (L2.CX P w) 2 ("Disk", some "operate") ["self"] (spDOperate K) := by
  obtain ⟨fd, F⟩ := T.c.def_ 6 (d := D_Disk_operate) rfl
  exact ⟨⟨fd, F.ok sc_Disk_operate (fun vs H Q E h => by first | (obtain ⟨rfl, _⟩ := h; rfl) | (obtain ⟨_, rfl, _⟩ := h; rfl) | (obtain ⟨_, _, rfl, _⟩ := h; rfl) | (obtain ⟨_, _, _, rfl, _⟩ := h; rfl) | (obtain ⟨_, _, _, _, rfl, _⟩ := h; rfl) | (obtain ⟨_, _, _, _, _, rfl, _⟩ := h; rfl) | (obtain ⟨_, _, _, _, _, _, rfl, _⟩ := h; rfl) | (obtain ⟨_, _, _, _, _, _, _, rfl, _⟩ := h; rfl) | (obtain ⟨_, _, _, _, _, _, _, _, rfl, _⟩ := h; rfl) | (obtain ⟨_, _, _, _, _, _, _, _, _, rfl, _⟩ := h; rfl) | (obtain ⟨_, _, _, _, _, _, _, _, _, _, rfl, _⟩ := h; rfl) | (obtain ⟨_, _, _, _, _, _, _, _, _, _, _, rfl, _⟩ := h; rfl) | (obtain ⟨_, _, _, _, _, _, _, _, _, _, _, _, rfl, _⟩ := h; rfl) | (obtain ⟨_, _, _, _, _, _, _, _, _, _, _, _, _, rfl, _⟩ := h; rfl) | (obtain ⟨_, _, _, _, _, _, _, _, _, _, _, _, _, _, rfl, _⟩ := h; rfl) | (obtain ⟨_, _, _, _, _, _, _, _, _, _, _, _, _, _, _, rfl, _⟩ := h; rfl)) (fun cdv A outer s H vs Q E hr h => ⟨t_Disk_operate K E, d_Disk_operate T (con_Disk_lose_power T) hr, p_Disk_operate  vs H Q E h⟩), F.bindsN fun _ _ _ _ _ _ us hl => match us, hl with | [_], _ => rfl⟩, F.kp⟩
theorem con_Disk_write (T : Tx K mg) : Con P w K mg base (L2.CX P w) 3 ("Disk", some "write") ["self", "index", "data"] (spDWrite K) := by
  obtain ⟨fd, F⟩ := T.c.def_ 7 (d := D_Disk_write) rfl
  exact ⟨⟨fd, F.ok sc_Disk_write (fun vs H Q E h => by first | (obtain ⟨rfl, _⟩ := h; rfl) | (obtain ⟨_, rfl, _⟩ := h; rfl) | (obtain ⟨_, _, rfl, _⟩ := h; rfl) | (obtain ⟨_, _, _, rfl, _⟩ := h; rfl) | (obtain ⟨_, _, _, _, rfl, _⟩ := h; rfl) | (obtain ⟨_, _, _, _, _, rfl, _⟩ := h; rfl) | (obtain ⟨_, _, _, _, _, _, rfl, _⟩ := h; rfl) | (obtain ⟨_, _, _, _, _, _, _, rfl, _⟩ := h; rfl) | (obtain ⟨_, _, _, _, _, _, _, _, rfl, _⟩ := h; rfl) | (obtain ⟨_, _, _, _, _, _, _, _, _, rfl, _⟩ := h; rfl) | (obtain ⟨_, _, _, _, _, _, _, _, _, _, rfl, _⟩ := h; rfl) | (obtain ⟨_, _, _, _, _, _, _, _, _, _, _, rfl, _⟩ := h; rfl) | (obtain ⟨_, _, _, _, _, _, _, _, _, _, _, _, rfl, _⟩ := h; rfl) | (obtain ⟨_, _, _, _, _, _, _, _, _, _, _, _, _, rfl, _⟩ := h; rfl) | (obtain ⟨_, _, _, _, _, _, _, _, _, _, _, _, _, _, rfl, _⟩ := h; rfl) | (obtain ⟨_, _, _, _, _, _, _, _, _, _, _, _, _, _, _, rfl, _⟩ := h; rfl)) (fun cdv A outer s H vs Q E hr h => ⟨t_Disk_write K E, d_Disk_write T (con_Disk_operate T) hr, p_Disk_write  vs H Q E h⟩), F.bindsN fun _ _ _ _ _ _ us hl => match us, hl with | [_, _, _], _ => rfl⟩, F.kp⟩
theorem con_Disk_sync (T : Tx K mg) : Con P w K mg base (L2.CX P w) 3 ("Disk", some "sync") ["self"] (spDSync K) := by
  obtain ⟨fd, F⟩ := T.c.def_ 8 (d := D_Disk_sync) rfl
  exact ⟨⟨fd, F.ok sc_Disk_sync (fun vs H Q E h => by first | (obtain ⟨rfl, _⟩ := h; rfl) | (obtain ⟨_, rfl, _⟩ := h; rfl) | (obtain ⟨_, _, rfl, _⟩ := h; rfl) | (obtain ⟨_, _, _, rfl, _⟩ := h; rfl) | (obtain ⟨_, _, _, _, rfl, _⟩ := h; rfl) | (obtain ⟨_, _, _, _, _, rfl, _⟩ := h; rfl) | (obtain ⟨_, _, _, _, _, _, rfl, _⟩ := h; rfl) | (obtain ⟨_, _, _, _, _, _, _, rfl, _⟩ := h; rfl) | (obtain ⟨_, _, _, _, _, _, _, _, rfl, _⟩ := h; rfl) | (obtain ⟨_, _, _, _, _, _, _, _, _, rfl, _⟩ := h; rfl) | (obtain ⟨_, _, _, _, _, _, _, _, _, _, rfl, _⟩ := h; rfl) | (obtain ⟨_, _, _, _, _, _, _, _, _, _, _, rfl, _⟩ := h; rfl) | (obtain ⟨_, _, _, _, _, _, _, _, _, _, _, _, rfl, _⟩ := h; rfl) | (obtain ⟨_, _, _, _, _, _, _, _, _, _, _, _, _, rfl, _⟩ := h; rfl) | (obtain ⟨_, _, _, _, _, _, _, _, _, _, _, _, _, _, rfl, _⟩ := h; rfl) | (obtain ⟨_, _, _, _, _, _, _, _, _, _, _, _, _, _, _, rfl, _⟩ := h; rfl)) (fun cdv A outer s H vs Q E hr h => ⟨t_Disk_sync K E, d_Disk_sync T (con_Disk_operate T) hr, p_Disk_sync  vs H Q E h⟩), F.bindsN fun _ _ _ _ _ _ us hl => match us, hl with | [_], _ => rfl⟩, F.kp⟩
theorem con_Disk_fail_after (T : Tx K mg) : Con P w K mg base (L2.CX P w) 1 ("Disk", some "fail_after") ["self", "operations"] (spDFail K) := by
  obtain ⟨fd, F⟩ := T.c.def_ 9 (d := D_Disk_fail_after) rfl
  exact ⟨⟨fd, F.ok sc_Disk_fail_after (fun vs H Q E h => by first | (obtain ⟨rfl, _⟩ := h; rfl) | (obtain ⟨_, rfl, _⟩ := h; rfl) | (obtain ⟨_, _, rfl, _⟩ := h; rfl) | (obtain ⟨_, _, _, rfl, _⟩ := h; rfl) | (obtain ⟨_, _, _, _, rfl, _⟩ := h; rfl) | (obtain ⟨_, _, _, _, _, rfl, _⟩ := h; rfl) | (obtain ⟨_, _, _, _, _, _, rfl, _⟩ := h; rfl) | (obtain ⟨_, _, _, _, _, _, _, rfl, _⟩ := h; rfl) | (obtain ⟨_, _, _, _, _, _, _, _, rfl, _⟩ := h; rfl) | (obtain ⟨_, _, _, _, _, _, _, _, _, rfl, _⟩ := h; rfl) | (obtain ⟨_, _, _, _, _, _, _, _, _, _, rfl, _⟩ := h; rfl) | (obtain ⟨_, _, _, _, _, _, _, _, _, _, _, rfl, _⟩ := h; rfl) | (obtain ⟨_, _, _, _, _, _, _, _, _, _, _, _, rfl, _⟩ := h; rfl) | (obtain ⟨_, _, _, _, _, _, _, _, _, _, _, _, _, rfl, _⟩ := h; rfl) | (obtain ⟨_, _, _, _, _, _, _, _, _, _, _, _, _, _, rfl, _⟩ := h; rfl) | (obtain ⟨_, _, _, _, _, _, _, _, _, _, _, _, _, _, _, rfl, _⟩ := h; rfl)) (fun cdv A outer s H vs Q E hr h => ⟨t_Disk_fail_after K E, d_Disk_fail_after T  hr, p_Disk_fail_after  vs H Q E h⟩), F.bindsN fun _ _ _ _ _ _ us hl => match us, hl with | [_, _], _ => rfl⟩, F.kp⟩
theorem con_Disk_power (T : Tx K mg) : Con P w K mg base CX0 2 ("Disk", some "power") ["self", "kept"] (spDPower K) := by
  obtain ⟨fd, F⟩ := T.c.def_ 10 (d := D_Disk_power) rfl
  exact ⟨⟨fd, F.ok sc_Disk_power (fun vs H Q E h => by first | (obtain ⟨rfl, _⟩ := h; rfl) | (obtain ⟨_, rfl, _⟩ := h; rfl) | (obtain ⟨_, _, rfl, _⟩ := h; rfl) | (obtain ⟨_, _, _, rfl, _⟩ := h; rfl) | (obtain ⟨_, _, _, _, rfl, _⟩ := h; rfl) | (obtain ⟨_, _, _, _, _, rfl, _⟩ := h; rfl) | (obtain ⟨_, _, _, _, _, _, rfl, _⟩ := h; rfl) | (obtain ⟨_, _, _, _, _, _, _, rfl, _⟩ := h; rfl) | (obtain ⟨_, _, _, _, _, _, _, _, rfl, _⟩ := h; rfl) | (obtain ⟨_, _, _, _, _, _, _, _, _, rfl, _⟩ := h; rfl) | (obtain ⟨_, _, _, _, _, _, _, _, _, _, rfl, _⟩ := h; rfl) | (obtain ⟨_, _, _, _, _, _, _, _, _, _, _, rfl, _⟩ := h; rfl) | (obtain ⟨_, _, _, _, _, _, _, _, _, _, _, _, rfl, _⟩ := h; rfl) | (obtain ⟨_, _, _, _, _, _, _, _, _, _, _, _, _, rfl, _⟩ := h; rfl) | (obtain ⟨_, _, _, _, _, _, _, _, _, _, _, _, _, _, rfl, _⟩ := h; rfl) | (obtain ⟨_, _, _, _, _, _, _, _, _, _, _, _, _, _, _, rfl, _⟩ := h; rfl)) (fun cdv A outer s H vs Q E hr h => ⟨t_Disk_power K, PSs.nox (d_Disk_power T (con_Disk_lose_power T) hr), p_Disk_power  vs H Q E h⟩), F.bindsN fun _ _ _ _ _ _ us hl => match us, hl with | [_, _], _ => rfl⟩, F.kp⟩
theorem con_Disk_is_on (T : Tx K mg) : Con P w K mg base CX0 1 ("Disk", some "is_on") ["self"] (spDIsOn K) := by
  obtain ⟨fd, F⟩ := T.c.def_ 11 (d := D_Disk_is_on) rfl
  exact ⟨⟨fd, F.ok sc_Disk_is_on (fun vs H Q E h => by first | (obtain ⟨rfl, _⟩ := h; rfl) | (obtain ⟨_, rfl, _⟩ := h; rfl) | (obtain ⟨_, _, rfl, _⟩ := h; rfl) | (obtain ⟨_, _, _, rfl, _⟩ := h; rfl) | (obtain ⟨_, _, _, _, rfl, _⟩ := h; rfl) | (obtain ⟨_, _, _, _, _, rfl, _⟩ := h; rfl) | (obtain ⟨_, _, _, _, _, _, rfl, _⟩ := h; rfl) | (obtain ⟨_, _, _, _, _, _, _, rfl, _⟩ := h; rfl) | (obtain ⟨_, _, _, _, _, _, _, _, rfl, _⟩ := h; rfl) | (obtain ⟨_, _, _, _, _, _, _, _, _, rfl, _⟩ := h; rfl) | (obtain ⟨_, _, _, _, _, _, _, _, _, _, rfl, _⟩ := h; rfl) | (obtain ⟨_, _, _, _, _, _, _, _, _, _, _, rfl, _⟩ := h; rfl) | (obtain ⟨_, _, _, _, _, _, _, _, _, _, _, _, rfl, _⟩ := h; rfl) | (obtain ⟨_, _, _, _, _, _, _, _, _, _, _, _, _, rfl, _⟩ := h; rfl) | (obtain ⟨_, _, _, _, _, _, _, _, _, _, _, _, _, _, rfl, _⟩ := h; rfl) | (obtain ⟨_, _, _, _, _, _, _, _, _, _, _, _, _, _, _, rfl, _⟩ := h; rfl)) (fun cdv A outer s H vs Q E hr h => ⟨t_Disk_is_on K, PSs.nox (d_Disk_is_on T  hr), p_Disk_is_on  vs H Q E h⟩), F.bindsN fun _ _ _ _ _ _ us hl => match us, hl with | [_], _ => rfl⟩, F.kp⟩
theorem con_Disk_losses (T : Tx K mg) : Con P w K mg base CX0 1 ("Disk", some "losses") ["self"] (spDLosses K) := by
  obtain ⟨fd, F⟩ := T.c.def_ 12 (d := D_Disk_losses) rfl
  exact ⟨⟨fd, F.ok sc_Disk_losses (fun vs H Q E h => by first | (obtain ⟨rfl, _⟩ := h; rfl) | (obtain ⟨_, rfl, _⟩ := h; rfl) | (obtain ⟨_, _, rfl, _⟩ := h; rfl) | (obtain ⟨_, _, _, rfl, _⟩ := h; rfl) | (obtain ⟨_, _, _, _, rfl, _⟩ := h; rfl) | (obtain ⟨_, _, _, _, _, rfl, _⟩ := h; rfl) | (obtain ⟨_, _, _, _, _, _, rfl, _⟩ := h; rfl) | (obtain ⟨_, _, _, _, _, _, _, rfl, _⟩ := h; rfl) | (obtain ⟨_, _, _, _, _, _, _, _, rfl, _⟩ := h; rfl) | (obtain ⟨_, _, _, _, _, _, _, _, _, rfl, _⟩ := h; rfl) | (obtain ⟨_, _, _, _, _, _, _, _, _, _, rfl, _⟩ := h; rfl) | (obtain ⟨_, _, _, _, _, _, _, _, _, _, _, rfl, _⟩ := h; rfl) | (obtain ⟨_, _, _, _, _, _, _, _, _, _, _, _, rfl, _⟩ := h; rfl) | (obtain ⟨_, _, _, _, _, _, _, _, _, _, _, _, _, rfl, _⟩ := h; rfl) | (obtain ⟨_, _, _, _, _, _, _, _, _, _, _, _, _, _, rfl, _⟩ := h; rfl) | (obtain ⟨_, _, _, _, _, _, _, _, _, _, _, _, _, _, _, rfl, _⟩ := h; rfl)) (fun cdv A outer s H vs Q E hr h => ⟨t_Disk_losses K, PSs.nox (d_Disk_losses T  hr), p_Disk_losses  vs H Q E h⟩), F.bindsN fun _ _ _ _ _ _ us hl => match us, hl with | [_], _ => rfl⟩, F.kp⟩
theorem con_next (T : Tx K mg) : Con P w K mg base CX0 1 ("_law_next", none) ["_law_state", "_law_limit"] (spNext K) := by
  obtain ⟨fd, F⟩ := T.c.def_ 13 (d := D_next) rfl
  exact ⟨⟨fd, F.ok sc_next (fun vs H Q E h => by first | (obtain ⟨rfl, _⟩ := h; rfl) | (obtain ⟨_, rfl, _⟩ := h; rfl) | (obtain ⟨_, _, rfl, _⟩ := h; rfl) | (obtain ⟨_, _, _, rfl, _⟩ := h; rfl) | (obtain ⟨_, _, _, _, rfl, _⟩ := h; rfl) | (obtain ⟨_, _, _, _, _, rfl, _⟩ := h; rfl) | (obtain ⟨_, _, _, _, _, _, rfl, _⟩ := h; rfl) | (obtain ⟨_, _, _, _, _, _, _, rfl, _⟩ := h; rfl) | (obtain ⟨_, _, _, _, _, _, _, _, rfl, _⟩ := h; rfl) | (obtain ⟨_, _, _, _, _, _, _, _, _, rfl, _⟩ := h; rfl) | (obtain ⟨_, _, _, _, _, _, _, _, _, _, rfl, _⟩ := h; rfl) | (obtain ⟨_, _, _, _, _, _, _, _, _, _, _, rfl, _⟩ := h; rfl) | (obtain ⟨_, _, _, _, _, _, _, _, _, _, _, _, rfl, _⟩ := h; rfl) | (obtain ⟨_, _, _, _, _, _, _, _, _, _, _, _, _, rfl, _⟩ := h; rfl) | (obtain ⟨_, _, _, _, _, _, _, _, _, _, _, _, _, _, rfl, _⟩ := h; rfl) | (obtain ⟨_, _, _, _, _, _, _, _, _, _, _, _, _, _, _, rfl, _⟩ := h; rfl)) (fun cdv A outer s H vs Q E hr h => ⟨t_next K, PSs.nox (d_next T  hr), p_next  vs H Q E h⟩), F.bindsN fun _ _ _ _ _ _ us hl => match us, hl with | [_, _], _ => rfl⟩, F.kp⟩
theorem con_same0 (T : Tx K mg) : Con P w K mg base CX0 0 ("_law_same", none) ["_law_actual", "_law_expected"] (spSameI K 0) := by
  obtain ⟨fd, F⟩ := T.c.def_ 14 (d := D_same) rfl
  exact ⟨⟨fd, ⟨fun vs H Q E h => h.1, fun _ _ _ _ _ _ _ _ _ _ _ _ _ h => h.2.elim⟩, F.bindsN fun _ _ _ _ _ _ us hl => match us, hl with | [_, _], _ => rfl⟩, F.kp⟩
theorem con_sameS (n : Nat) (T : Tx K mg) (G : Con P w K mg base CX0 n ("_law_same", none) ["_law_actual", "_law_expected"] (spSameI K n)) : Con P w K mg base CX0 (n + 1) ("_law_same", none) ["_law_actual", "_law_expected"] (spSame K n) := by
  obtain ⟨fd, F⟩ := T.c.def_ 14 (d := D_same) rfl
  exact ⟨⟨fd, F.ok sc_same (fun vs H Q E h => by first | (obtain ⟨rfl, _⟩ := h; rfl) | (obtain ⟨_, rfl, _⟩ := h; rfl) | (obtain ⟨_, _, rfl, _⟩ := h; rfl) | (obtain ⟨_, _, _, rfl, _⟩ := h; rfl) | (obtain ⟨_, _, _, _, rfl, _⟩ := h; rfl) | (obtain ⟨_, _, _, _, _, rfl, _⟩ := h; rfl) | (obtain ⟨_, _, _, _, _, _, rfl, _⟩ := h; rfl) | (obtain ⟨_, _, _, _, _, _, _, rfl, _⟩ := h; rfl) | (obtain ⟨_, _, _, _, _, _, _, _, rfl, _⟩ := h; rfl) | (obtain ⟨_, _, _, _, _, _, _, _, _, rfl, _⟩ := h; rfl) | (obtain ⟨_, _, _, _, _, _, _, _, _, _, rfl, _⟩ := h; rfl) | (obtain ⟨_, _, _, _, _, _, _, _, _, _, _, rfl, _⟩ := h; rfl) | (obtain ⟨_, _, _, _, _, _, _, _, _, _, _, _, rfl, _⟩ := h; rfl) | (obtain ⟨_, _, _, _, _, _, _, _, _, _, _, _, _, rfl, _⟩ := h; rfl) | (obtain ⟨_, _, _, _, _, _, _, _, _, _, _, _, _, _, rfl, _⟩ := h; rfl) | (obtain ⟨_, _, _, _, _, _, _, _, _, _, _, _, _, _, _, rfl, _⟩ := h; rfl)) (fun cdv A outer s H vs Q E hr h => ⟨t_same K n, PSs.nox (d_same T n G hr), p_same  n vs H Q E h⟩), F.bindsN fun _ _ _ _ _ _ us hl => match us, hl with | [_, _], _ => rfl⟩, F.kp⟩
theorem con_same (T : Tx K mg) : ∀ n : Nat, Con P w K mg base CX0 n ("_law_same", none) ["_law_actual", "_law_expected"] (spSameI K n)
  | 0 => con_same0 T
  | n + 1 => con_sameS n T (con_same T n)
theorem con_refused (T : Tx K mg) : Con P w K mg base CX0 3 ("_law_refused", none) ["_law_size"] (spRefused K) := by
  obtain ⟨fd, F⟩ := T.c.def_ 15 (d := D_refused) rfl
  exact ⟨⟨fd, F.ok sc_refused (fun vs H Q E h => by first | (obtain ⟨rfl, _⟩ := h; rfl) | (obtain ⟨_, rfl, _⟩ := h; rfl) | (obtain ⟨_, _, rfl, _⟩ := h; rfl) | (obtain ⟨_, _, _, rfl, _⟩ := h; rfl) | (obtain ⟨_, _, _, _, rfl, _⟩ := h; rfl) | (obtain ⟨_, _, _, _, _, rfl, _⟩ := h; rfl) | (obtain ⟨_, _, _, _, _, _, rfl, _⟩ := h; rfl) | (obtain ⟨_, _, _, _, _, _, _, rfl, _⟩ := h; rfl) | (obtain ⟨_, _, _, _, _, _, _, _, rfl, _⟩ := h; rfl) | (obtain ⟨_, _, _, _, _, _, _, _, _, rfl, _⟩ := h; rfl) | (obtain ⟨_, _, _, _, _, _, _, _, _, _, rfl, _⟩ := h; rfl) | (obtain ⟨_, _, _, _, _, _, _, _, _, _, _, rfl, _⟩ := h; rfl) | (obtain ⟨_, _, _, _, _, _, _, _, _, _, _, _, rfl, _⟩ := h; rfl) | (obtain ⟨_, _, _, _, _, _, _, _, _, _, _, _, _, rfl, _⟩ := h; rfl) | (obtain ⟨_, _, _, _, _, _, _, _, _, _, _, _, _, _, rfl, _⟩ := h; rfl) | (obtain ⟨_, _, _, _, _, _, _, _, _, _, _, _, _, _, _, rfl, _⟩ := h; rfl)) (fun cdv A outer s H vs Q E hr h => ⟨t_refused K, PSs.nox (d_refused T (con_Disk_init T) hr), p_refused T vs H Q E h⟩), F.bindsN fun _ _ _ _ _ _ us hl => match us, hl with | [_], _ => rfl⟩, F.kp⟩
theorem con_operate (T : Tx K mg) : Con P w K mg base CX0 1 ("_law_operate", none) ["_law_world"] (spOperate K) := by
  obtain ⟨fd, F⟩ := T.c.def_ 16 (d := D_operate) rfl
  exact ⟨⟨fd, F.ok sc_operate (fun vs H Q E h => by first | (obtain ⟨rfl, _⟩ := h; rfl) | (obtain ⟨_, rfl, _⟩ := h; rfl) | (obtain ⟨_, _, rfl, _⟩ := h; rfl) | (obtain ⟨_, _, _, rfl, _⟩ := h; rfl) | (obtain ⟨_, _, _, _, rfl, _⟩ := h; rfl) | (obtain ⟨_, _, _, _, _, rfl, _⟩ := h; rfl) | (obtain ⟨_, _, _, _, _, _, rfl, _⟩ := h; rfl) | (obtain ⟨_, _, _, _, _, _, _, rfl, _⟩ := h; rfl) | (obtain ⟨_, _, _, _, _, _, _, _, rfl, _⟩ := h; rfl) | (obtain ⟨_, _, _, _, _, _, _, _, _, rfl, _⟩ := h; rfl) | (obtain ⟨_, _, _, _, _, _, _, _, _, _, rfl, _⟩ := h; rfl) | (obtain ⟨_, _, _, _, _, _, _, _, _, _, _, rfl, _⟩ := h; rfl) | (obtain ⟨_, _, _, _, _, _, _, _, _, _, _, _, rfl, _⟩ := h; rfl) | (obtain ⟨_, _, _, _, _, _, _, _, _, _, _, _, _, rfl, _⟩ := h; rfl) | (obtain ⟨_, _, _, _, _, _, _, _, _, _, _, _, _, _, rfl, _⟩ := h; rfl) | (obtain ⟨_, _, _, _, _, _, _, _, _, _, _, _, _, _, _, rfl, _⟩ := h; rfl)) (fun cdv A outer s H vs Q E hr h => ⟨t_operate K, PSs.nox (d_operate T  hr), p_operate  vs H Q E h⟩), F.bindsN fun _ _ _ _ _ _ us hl => match us, hl with | [_], _ => rfl⟩, F.kp⟩
theorem con_write (T : Tx K mg) : Con P w K mg base CX0 4 ("_law_write", none) ["_law_state", "_law_world", "_law_disk"] (spWrite K) := by
  obtain ⟨fd, F⟩ := T.c.def_ 17 (d := D_write) rfl
  exact ⟨⟨fd, F.ok sc_write (fun vs H Q E h => by first | (obtain ⟨rfl, _⟩ := h; rfl) | (obtain ⟨_, rfl, _⟩ := h; rfl) | (obtain ⟨_, _, rfl, _⟩ := h; rfl) | (obtain ⟨_, _, _, rfl, _⟩ := h; rfl) | (obtain ⟨_, _, _, _, rfl, _⟩ := h; rfl) | (obtain ⟨_, _, _, _, _, rfl, _⟩ := h; rfl) | (obtain ⟨_, _, _, _, _, _, rfl, _⟩ := h; rfl) | (obtain ⟨_, _, _, _, _, _, _, rfl, _⟩ := h; rfl) | (obtain ⟨_, _, _, _, _, _, _, _, rfl, _⟩ := h; rfl) | (obtain ⟨_, _, _, _, _, _, _, _, _, rfl, _⟩ := h; rfl) | (obtain ⟨_, _, _, _, _, _, _, _, _, _, rfl, _⟩ := h; rfl) | (obtain ⟨_, _, _, _, _, _, _, _, _, _, _, rfl, _⟩ := h; rfl) | (obtain ⟨_, _, _, _, _, _, _, _, _, _, _, _, rfl, _⟩ := h; rfl) | (obtain ⟨_, _, _, _, _, _, _, _, _, _, _, _, _, rfl, _⟩ := h; rfl) | (obtain ⟨_, _, _, _, _, _, _, _, _, _, _, _, _, _, rfl, _⟩ := h; rfl) | (obtain ⟨_, _, _, _, _, _, _, _, _, _, _, _, _, _, _, rfl, _⟩ := h; rfl)) (fun cdv A outer s H vs Q E hr h => ⟨t_write K, PSs.nox (d_write T (con_next T) (con_operate T) (con_Disk_write T) hr), p_write T vs H Q E h⟩), F.bindsN fun _ _ _ _ _ _ us hl => match us, hl with | [_, _, _], _ => rfl⟩, F.kp⟩
theorem con_sync (T : Tx K mg) : Con P w K mg base CX0 4 ("_law_sync", none) ["_law_world", "_law_disk"] (spSync K) := by
  obtain ⟨fd, F⟩ := T.c.def_ 18 (d := D_sync) rfl
  exact ⟨⟨fd, F.ok sc_sync (fun vs H Q E h => by first | (obtain ⟨rfl, _⟩ := h; rfl) | (obtain ⟨_, rfl, _⟩ := h; rfl) | (obtain ⟨_, _, rfl, _⟩ := h; rfl) | (obtain ⟨_, _, _, rfl, _⟩ := h; rfl) | (obtain ⟨_, _, _, _, rfl, _⟩ := h; rfl) | (obtain ⟨_, _, _, _, _, rfl, _⟩ := h; rfl) | (obtain ⟨_, _, _, _, _, _, rfl, _⟩ := h; rfl) | (obtain ⟨_, _, _, _, _, _, _, rfl, _⟩ := h; rfl) | (obtain ⟨_, _, _, _, _, _, _, _, rfl, _⟩ := h; rfl) | (obtain ⟨_, _, _, _, _, _, _, _, _, rfl, _⟩ := h; rfl) | (obtain ⟨_, _, _, _, _, _, _, _, _, _, rfl, _⟩ := h; rfl) | (obtain ⟨_, _, _, _, _, _, _, _, _, _, _, rfl, _⟩ := h; rfl) | (obtain ⟨_, _, _, _, _, _, _, _, _, _, _, _, rfl, _⟩ := h; rfl) | (obtain ⟨_, _, _, _, _, _, _, _, _, _, _, _, _, rfl, _⟩ := h; rfl) | (obtain ⟨_, _, _, _, _, _, _, _, _, _, _, _, _, _, rfl, _⟩ := h; rfl) | (obtain ⟨_, _, _, _, _, _, _, _, _, _, _, _, _, _, _, rfl, _⟩ := h; rfl)) (fun cdv A outer s H vs Q E hr h => ⟨t_sync K, PSs.nox (d_sync T (con_operate T) (con_Disk_sync T) hr), p_sync T vs H Q E h⟩), F.bindsN fun _ _ _ _ _ _ us hl => match us, hl with | [_, _], _ => rfl⟩, F.kp⟩
theorem con_fail (T : Tx K mg) : Con P w K mg base CX0 2 ("_law_fail", none) ["_law_state", "_law_world", "_law_disk"] (spFail K) := by
  obtain ⟨fd, F⟩ := T.c.def_ 19 (d := D_fail) rfl
  exact ⟨⟨fd, F.ok sc_fail (fun vs H Q E h => by first | (obtain ⟨rfl, _⟩ := h; rfl) | (obtain ⟨_, rfl, _⟩ := h; rfl) | (obtain ⟨_, _, rfl, _⟩ := h; rfl) | (obtain ⟨_, _, _, rfl, _⟩ := h; rfl) | (obtain ⟨_, _, _, _, rfl, _⟩ := h; rfl) | (obtain ⟨_, _, _, _, _, rfl, _⟩ := h; rfl) | (obtain ⟨_, _, _, _, _, _, rfl, _⟩ := h; rfl) | (obtain ⟨_, _, _, _, _, _, _, rfl, _⟩ := h; rfl) | (obtain ⟨_, _, _, _, _, _, _, _, rfl, _⟩ := h; rfl) | (obtain ⟨_, _, _, _, _, _, _, _, _, rfl, _⟩ := h; rfl) | (obtain ⟨_, _, _, _, _, _, _, _, _, _, rfl, _⟩ := h; rfl) | (obtain ⟨_, _, _, _, _, _, _, _, _, _, _, rfl, _⟩ := h; rfl) | (obtain ⟨_, _, _, _, _, _, _, _, _, _, _, _, rfl, _⟩ := h; rfl) | (obtain ⟨_, _, _, _, _, _, _, _, _, _, _, _, _, rfl, _⟩ := h; rfl) | (obtain ⟨_, _, _, _, _, _, _, _, _, _, _, _, _, _, rfl, _⟩ := h; rfl) | (obtain ⟨_, _, _, _, _, _, _, _, _, _, _, _, _, _, _, rfl, _⟩ := h; rfl)) (fun cdv A outer s H vs Q E hr h => ⟨t_fail K, PSs.nox (d_fail T (con_next T) (con_Disk_fail_after T) hr), p_fail T vs H Q E h⟩), F.bindsN fun _ _ _ _ _ _ us hl => match us, hl with | [_, _, _], _ => rfl⟩, F.kp⟩
theorem con_power (T : Tx K mg) : Con P w K mg base CX0 3 ("_law_power", none) ["_law_state", "_law_world", "_law_disk"] (spPower K) := by
  obtain ⟨fd, F⟩ := T.c.def_ 20 (d := D_power) rfl
  exact ⟨⟨fd, F.ok sc_power (fun vs H Q E h => by first | (obtain ⟨rfl, _⟩ := h; rfl) | (obtain ⟨_, rfl, _⟩ := h; rfl) | (obtain ⟨_, _, rfl, _⟩ := h; rfl) | (obtain ⟨_, _, _, rfl, _⟩ := h; rfl) | (obtain ⟨_, _, _, _, rfl, _⟩ := h; rfl) | (obtain ⟨_, _, _, _, _, rfl, _⟩ := h; rfl) | (obtain ⟨_, _, _, _, _, _, rfl, _⟩ := h; rfl) | (obtain ⟨_, _, _, _, _, _, _, rfl, _⟩ := h; rfl) | (obtain ⟨_, _, _, _, _, _, _, _, rfl, _⟩ := h; rfl) | (obtain ⟨_, _, _, _, _, _, _, _, _, rfl, _⟩ := h; rfl) | (obtain ⟨_, _, _, _, _, _, _, _, _, _, rfl, _⟩ := h; rfl) | (obtain ⟨_, _, _, _, _, _, _, _, _, _, _, rfl, _⟩ := h; rfl) | (obtain ⟨_, _, _, _, _, _, _, _, _, _, _, _, rfl, _⟩ := h; rfl) | (obtain ⟨_, _, _, _, _, _, _, _, _, _, _, _, _, rfl, _⟩ := h; rfl) | (obtain ⟨_, _, _, _, _, _, _, _, _, _, _, _, _, _, rfl, _⟩ := h; rfl) | (obtain ⟨_, _, _, _, _, _, _, _, _, _, _, _, _, _, _, rfl, _⟩ := h; rfl)) (fun cdv A outer s H vs Q E hr h => ⟨t_power K, PSs.nox (d_power T (con_next T) (con_Disk_power T) hr), p_power  vs H Q E h⟩), F.bindsN fun _ _ _ _ _ _ us hl => match us, hl with | [_, _, _], _ => rfl⟩, F.kp⟩
theorem con_deed (T : Tx K mg) : Con P w K mg base CX0 5 ("_law_deed", none) ["_law_state", "_law_world", "_law_disk"] (spDeed K) := by
  obtain ⟨fd, F⟩ := T.c.def_ 21 (d := D_deed) rfl
  exact ⟨⟨fd, F.ok sc_deed (fun vs H Q E h => by first | (obtain ⟨rfl, _⟩ := h; rfl) | (obtain ⟨_, rfl, _⟩ := h; rfl) | (obtain ⟨_, _, rfl, _⟩ := h; rfl) | (obtain ⟨_, _, _, rfl, _⟩ := h; rfl) | (obtain ⟨_, _, _, _, rfl, _⟩ := h; rfl) | (obtain ⟨_, _, _, _, _, rfl, _⟩ := h; rfl) | (obtain ⟨_, _, _, _, _, _, rfl, _⟩ := h; rfl) | (obtain ⟨_, _, _, _, _, _, _, rfl, _⟩ := h; rfl) | (obtain ⟨_, _, _, _, _, _, _, _, rfl, _⟩ := h; rfl) | (obtain ⟨_, _, _, _, _, _, _, _, _, rfl, _⟩ := h; rfl) | (obtain ⟨_, _, _, _, _, _, _, _, _, _, rfl, _⟩ := h; rfl) | (obtain ⟨_, _, _, _, _, _, _, _, _, _, _, rfl, _⟩ := h; rfl) | (obtain ⟨_, _, _, _, _, _, _, _, _, _, _, _, rfl, _⟩ := h; rfl) | (obtain ⟨_, _, _, _, _, _, _, _, _, _, _, _, _, rfl, _⟩ := h; rfl) | (obtain ⟨_, _, _, _, _, _, _, _, _, _, _, _, _, _, rfl, _⟩ := h; rfl) | (obtain ⟨_, _, _, _, _, _, _, _, _, _, _, _, _, _, _, rfl, _⟩ := h; rfl)) (fun cdv A outer s H vs Q E hr h => ⟨t_deed K, PSs.nox (d_deed T (con_next T) (con_write T) (con_sync T) (con_fail T) (con_power T) hr), p_deed  vs H Q E h⟩), F.bindsN fun _ _ _ _ _ _ us hl => match us, hl with | [_, _, _], _ => rfl⟩, F.kp⟩
theorem con_sector (T : Tx K mg) : Con P w K mg base CX0 1 ("_law_sector", none) ["_law_world", "_law_index"] (spSector K) := by
  obtain ⟨fd, F⟩ := T.c.def_ 22 (d := D_sector) rfl
  exact ⟨⟨fd, F.ok sc_sector (fun vs H Q E h => by first | (obtain ⟨rfl, _⟩ := h; rfl) | (obtain ⟨_, rfl, _⟩ := h; rfl) | (obtain ⟨_, _, rfl, _⟩ := h; rfl) | (obtain ⟨_, _, _, rfl, _⟩ := h; rfl) | (obtain ⟨_, _, _, _, rfl, _⟩ := h; rfl) | (obtain ⟨_, _, _, _, _, rfl, _⟩ := h; rfl) | (obtain ⟨_, _, _, _, _, _, rfl, _⟩ := h; rfl) | (obtain ⟨_, _, _, _, _, _, _, rfl, _⟩ := h; rfl) | (obtain ⟨_, _, _, _, _, _, _, _, rfl, _⟩ := h; rfl) | (obtain ⟨_, _, _, _, _, _, _, _, _, rfl, _⟩ := h; rfl) | (obtain ⟨_, _, _, _, _, _, _, _, _, _, rfl, _⟩ := h; rfl) | (obtain ⟨_, _, _, _, _, _, _, _, _, _, _, rfl, _⟩ := h; rfl) | (obtain ⟨_, _, _, _, _, _, _, _, _, _, _, _, rfl, _⟩ := h; rfl) | (obtain ⟨_, _, _, _, _, _, _, _, _, _, _, _, _, rfl, _⟩ := h; rfl) | (obtain ⟨_, _, _, _, _, _, _, _, _, _, _, _, _, _, rfl, _⟩ := h; rfl) | (obtain ⟨_, _, _, _, _, _, _, _, _, _, _, _, _, _, _, rfl, _⟩ := h; rfl)) (fun cdv A outer s H vs Q E hr h => ⟨t_sector K, PSs.nox (d_sector T  hr), p_sector  vs H Q E h⟩), F.bindsN fun _ _ _ _ _ _ us hl => match us, hl with | [_, _], _ => rfl⟩, F.kp⟩
theorem con_is_right (T : Tx K mg) : Con P w K mg base CX0 5 ("_law_is_right", none) ["_law_state", "_law_world", "_law_disk"] (spRight K) := by
  obtain ⟨fd, F⟩ := T.c.def_ 23 (d := D_is_right) rfl
  exact ⟨⟨fd, F.ok sc_is_right (fun vs H Q E h => by first | (obtain ⟨rfl, _⟩ := h; rfl) | (obtain ⟨_, rfl, _⟩ := h; rfl) | (obtain ⟨_, _, rfl, _⟩ := h; rfl) | (obtain ⟨_, _, _, rfl, _⟩ := h; rfl) | (obtain ⟨_, _, _, _, rfl, _⟩ := h; rfl) | (obtain ⟨_, _, _, _, _, rfl, _⟩ := h; rfl) | (obtain ⟨_, _, _, _, _, _, rfl, _⟩ := h; rfl) | (obtain ⟨_, _, _, _, _, _, _, rfl, _⟩ := h; rfl) | (obtain ⟨_, _, _, _, _, _, _, _, rfl, _⟩ := h; rfl) | (obtain ⟨_, _, _, _, _, _, _, _, _, rfl, _⟩ := h; rfl) | (obtain ⟨_, _, _, _, _, _, _, _, _, _, rfl, _⟩ := h; rfl) | (obtain ⟨_, _, _, _, _, _, _, _, _, _, _, rfl, _⟩ := h; rfl) | (obtain ⟨_, _, _, _, _, _, _, _, _, _, _, _, rfl, _⟩ := h; rfl) | (obtain ⟨_, _, _, _, _, _, _, _, _, _, _, _, _, rfl, _⟩ := h; rfl) | (obtain ⟨_, _, _, _, _, _, _, _, _, _, _, _, _, _, rfl, _⟩ := h; rfl) | (obtain ⟨_, _, _, _, _, _, _, _, _, _, _, _, _, _, _, rfl, _⟩ := h; rfl)) (fun cdv A outer s H vs Q E hr h => ⟨t_is_right K, PSs.nox (d_is_right T (con_Disk_size T) (con_Disk_pending T) (con_Disk_counts T) (con_Disk_is_on T) (con_Disk_losses T) (con_same T 4) (con_next T) (con_Disk_read T) (con_sector T) hr), p_is_right  vs H Q E h⟩), F.bindsN fun _ _ _ _ _ _ us hl => match us, hl with | [_, _, _], _ => rfl⟩, F.kp⟩
theorem okL (T : Tx K mg) {fd : FuncData} (F : FunD K D_law.name D_law.qual D_law.params D_law.body D_law.scope (D_law.dvs K) (D_law.kws K) (He.fAd K D_law.at_) fd) : FnOk P w K mg base CX0 6 (He.fAd K ("law", none)) fd ["_law_script"] (spLaw K) :=
  F.ok sc_law (fun vs H Q E h => by first | (obtain ⟨rfl, _⟩ := h; rfl) | (obtain ⟨_, rfl, _⟩ := h; rfl) | (obtain ⟨_, _, rfl, _⟩ := h; rfl) | (obtain ⟨_, _, _, rfl, _⟩ := h; rfl) | (obtain ⟨_, _, _, _, rfl, _⟩ := h; rfl) | (obtain ⟨_, _, _, _, _, rfl, _⟩ := h; rfl) | (obtain ⟨_, _, _, _, _, _, rfl, _⟩ := h; rfl) | (obtain ⟨_, _, _, _, _, _, _, rfl, _⟩ := h; rfl) | (obtain ⟨_, _, _, _, _, _, _, _, rfl, _⟩ := h; rfl) | (obtain ⟨_, _, _, _, _, _, _, _, _, rfl, _⟩ := h; rfl) | (obtain ⟨_, _, _, _, _, _, _, _, _, _, rfl, _⟩ := h; rfl) | (obtain ⟨_, _, _, _, _, _, _, _, _, _, _, rfl, _⟩ := h; rfl) | (obtain ⟨_, _, _, _, _, _, _, _, _, _, _, _, rfl, _⟩ := h; rfl) | (obtain ⟨_, _, _, _, _, _, _, _, _, _, _, _, _, rfl, _⟩ := h; rfl) | (obtain ⟨_, _, _, _, _, _, _, _, _, _, _, _, _, _, rfl, _⟩ := h; rfl) | (obtain ⟨_, _, _, _, _, _, _, _, _, _, _, _, _, _, _, rfl, _⟩ := h; rfl)) (fun cdv A outer s H vs Q E hr h => ⟨t_law K, PSs.nox (d_law T (con_next T) (con_refused T) (con_Disk_init T) (con_is_right T) (con_deed T) (con_Disk_read T) (con_sector T) hr), p_law T vs H Q E h⟩)
end
abbrev RR : PySem.W.OpenRow := PySem.W.OpenLaw.row PySem.Challenge.rw_sameanswer_k05_disk_keeps_what_was_synce
def obX (g : Addr → Option Obj) : He.AlD × Bool := (He.obsD faL fnL (He.frG g (He.asD g 5)), exK (He.frG g (He.asD g 5)))
def hk : PySem.W.Hook where
  α := He.AlD × Bool
  obs := fun s => obX s.heap.get?
  val := fun _ => (He.valD fnL, true)
  says := fun _ h => ∃ K : PySem.W.Frag, K.In h ∧ He.SaysD faL fnL K ∧ exK K = true
  of := fun _ _ e => ⟨_, He.frG_in, congrArg (fun z : He.AlD × Bool => z.1) e, congrArg (fun z : He.AlD × Bool => z.2) e⟩
  keeps := fun _ _ _ ⟨K, hK, c⟩ k => ⟨K, PySem.W.Frag.In.keeps hK k, c⟩
def ob (s : PySem.W.SharedT) : He.AlD × Bool := obX (HandSHeadRun.getT s)
theorem ob_eq (s : PySem.W.SharedT) : ob s = hk.obs s.abs := by
  show obX (HandSHeadRun.getT s) = obX s.abs.heap.get?
  rw [show HandSHeadRun.getT s = s.abs.heap.get? from funext (HandSHeadRun.getT_eq s)]
theorem runX (w : World) : HandSHeadRun.RunEq RR (PySem.W.view RR.prog [21]) hk ob 3000 ["AnswerError", "InvalidArgument", "PowerOff", "FEWEST", "MOST", "SECTOR", "Disk", "_law_next", "_law_same", "_law_refused", "_law_operate", "_law_write", "_law_sync", "_law_fail", "_law_power", "_law_deed", "_law_sector", "_law_is_right"] w := by
  intro os
  kernel_rfl
theorem factsX {P : Program} {w : World} {K : PySem.W.Frag} {h : Heap} {mg : Str → Option Value} {f : Addr} (X : K.In h) (G : h.Ns mainGlobals mg) (hfa : mg ("law" : Str) = some (.ref f)) (c : He.SaysD faL fnL K) (ex : exK K = true) :
    ∃ fd : FuncData, (∀ (s : Shared) (v : Value), BindsTo s fd ⟨[v], []⟩ [("_law_script", v)]) ∧ ∀ base : Heap, K.In base → base.Ns mainGlobals mg → FnOk P w K mg base CX0 6 f fd ["_law_script"] (spLaw K) := by
  have T : Tx K mg := ⟨c, ⟨h, X, G⟩, ex⟩
  obtain ⟨fd, F⟩ := c.def_ 24 (d := D_law) rfl
  have e := hfa.symm.trans (He.glo_ok X G (c.fact 11 (f := .glo "law") rfl))
  cases e
  have b := FunD.bindsA (ps := ["_law_script"]) F fun _ _ _ _ _ _ us hl => match us, hl with | [_], _ => rfl
  exact ⟨fd, fun s v => b s [v] rfl, fun base _ _ => okL T F⟩
end L2.Q
open PySem PySem.W PySem.Calls PyProof.Rows
theorem PySem.Challenge.cw_sameanswer_k05_disk_keeps_what_was_synce_holds : PySem.Challenge.rw_sameanswer_k05_disk_keeps_what_was_synce.Holds := by
  w_on; o_law
  refine HandSHeadRun.head_any (r := OpenLaw.row PySem.Challenge.rw_sameanswer_k05_disk_keeps_what_was_synce) (q := view (OpenLaw.row PySem.Challenge.rw_sameanswer_k05_disk_keeps_what_was_synce).prog [21]) (H := L2.Q.hk) (ob := L2.Q.ob) (M := 3000) (loose := ["AnswerError", "InvalidArgument", "PowerOff", "FEWEST", "MOST", "SECTOR", "Disk", "_law_next", "_law_same", "_law_refused", "_law_operate", "_law_write", "_law_sync", "_law_fail", "_law_power", "_law_deed", "_law_sector", "_law_is_right"]) (d := HandSHeadRun.topDef (OpenLaw.row PySem.Challenge.rw_sameanswer_k05_disk_keeps_what_was_synce).prog 21) (kwd := []) L2.Q.ob_eq
    (by kernel_rfl) (fun s => by kernel_rfl) L2.Q.runX (by kernel_rfl) (by kernel_rfl) (by kernel_rfl) (by rfl) (by first | assumption | decide +kernel) (by decide +kernel) ⟨rfl, rfl, rfl, rfl, rfl, by decide +kernel⟩ ?hw ?hc
  case hw => w_witness2
  case hc =>
    refine L2.walk_ofE (l := PySem.Challenge.rw_sameanswer_k05_disk_keeps_what_was_synce) (n := 63) (k := 6) (x := "_law_script") (CX := L2.CX0) rfl (by decide) (by kernel_rfl) ⟨rfl, by decide, by decide⟩ ?F (fun _ _ _ _ z => z)
    intro w mg fa h Y G hmg0
    obtain ⟨K, KX, c, ex⟩ := Y
    have hmg : mg ("law" : PySem.Str) = some (.ref fa) := by
      have e : (HandSHeadRun.topDef (OpenLaw.row PySem.Challenge.rw_sameanswer_k05_disk_keeps_what_was_synce).prog 21).name = ("law" : PySem.Str) := by kernel_rfl
      rw [← e]
      exact hmg0
    obtain ⟨fd, hb, hF⟩ := L2.Q.factsX (P := (PySem.Challenge.rw_sameanswer_k05_disk_keeps_what_was_synce).prog) (w := w) KX G hmg c ex
    exact ⟨K, fd, L2.Q.spLaw K, KX, hb, fun H a ns hl _ hS => ⟨a, ns, rfl, hS, hl, fun _ => rfl⟩, hF⟩
