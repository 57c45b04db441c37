/-
  Own texts of this claim: walks of the functions, and what is reckoned of them.
-/
import Derived.Test.YtegllbmkkfnajaaGreatDoorM1
import Derived.Laws.Externs
import Derived.Test.YtegllbmkkfnajaaGreatDoorProg
section
namespace Go.Proofs.YtegllbmkkfnajaaGreatDoor
open Go Go.RowKit
def fR (b : Nat) : Nat := b % 9223372036854775808
def fS (b : Nat) : Bool := decide (9223372036854775808 ≤ b)
def fNaN (b : Nat) : Bool := decide (9218868437227405312 < fR b)
def fInf (b : Nat) : Bool := decide (fR b = 9218868437227405312)
def fNeg (b : Nat) : Bool := fS b && (decide (fR b ≠ 0) && decide (fR b ≤ 9218868437227405312))
def fPos (b : Nat) : Bool := !fS b && (decide (fR b ≠ 0) && decide (fR b ≤ 9218868437227405312))
theorem fS_eq {b : Nat} (hb : b < 18446744073709551616) : (b / 9223372036854775808 % 2 == 1) = fS b := by
  unfold fS
  by_cases h : 9223372036854775808 ≤ b
  · have : b / 9223372036854775808 = 1 := by omega
    simp [h, this]
  · have : b / 9223372036854775808 = 0 := by omega
    simp [h, this]
theorem read_nan {b : Nat} (hb : b < 18446744073709551616) (h : fNaN b = true) : Ieee.double.read b = .nan (fS b) (fR b - 9218868437227405312) := by
  have h' : 9218868437227405312 < fR b := by simpa [fNaN] using h
  unfold Ieee.Format.read
  simp only [show Ieee.double.signWeight = 9223372036854775808 from rfl, show Ieee.double.binade = 4503599627370496 from rfl, show Ieee.double.infRung = 9218868437227405312 from rfl, fS_eq hb]
  unfold fR at *
  rw [if_neg (by omega), if_neg (by omega), if_neg (by omega)]
theorem read_inf {b : Nat} (hb : b < 18446744073709551616) (h : fInf b = true) : Ieee.double.read b = .infinity (fS b) := by
  have h' : fR b = 9218868437227405312 := by simpa [fInf] using h
  unfold Ieee.Format.read
  simp only [show Ieee.double.signWeight = 9223372036854775808 from rfl, show Ieee.double.binade = 4503599627370496 from rfl, show Ieee.double.infRung = 9218868437227405312 from rfl, fS_eq hb]
  unfold fR at *
  rw [if_neg (by omega), if_neg (by omega), if_pos h']
theorem read_num {b : Nat} (hb : b < 18446744073709551616) (h : fR b < 9218868437227405312) : ∃ m p, Ieee.double.read b = .number (fS b) m p ∧ (m = 0 ↔ fR b = 0) ∧ m ≤ 9007199254740991 ∧ -1074 ≤ p ∧ p ≤ 971 := by
  unfold Ieee.Format.read
  simp only [show Ieee.double.signWeight = 9223372036854775808 from rfl, show Ieee.double.binade = 4503599627370496 from rfl, show Ieee.double.infRung = 9218868437227405312 from rfl, show Ieee.double.leastPlace = -1074 from rfl, fS_eq hb]
  unfold fR at *
  by_cases h1 : b % 9223372036854775808 < 4503599627370496
  · rw [if_pos h1]
    exact ⟨_, _, rfl, Iff.rfl, by omega, by omega, by omega⟩
  · rw [if_neg h1, if_pos h]
    refine ⟨_, _, rfl, ⟨fun h => by omega, fun h => by omega⟩, by omega, by omega, ?_⟩
    have : b % 9223372036854775808 / 4503599627370496 ≤ 2046 := by omega
    omega
theorem read_zero : Ieee.double.read 0 = .number false 0 (-1074) := by rfl
theorem read_max : Ieee.double.read 9218868437227405311 = .number false 9007199254740991 971 := by decide
theorem tri {b : Nat} : fNaN b = true ∨ fInf b = true ∧ fNaN b = false ∨ fR b < 9218868437227405312 ∧ fNaN b = false ∧ fInf b = false := by
  unfold fNaN fInf
  rcases Nat.lt_trichotomy (fR b) 9218868437227405312 with h | h | h
  · right; right; simp; omega
  · right; left; simp; omega
  · left; simp; omega
theorem sh_pos {m k : Nat} (h : m ≠ 0) : 0 < m <<< k := by rw [Nat.shiftLeft_eq]; exact Nat.mul_pos (Nat.pos_of_ne_zero h) (Nat.two_pow_pos k)
theorem ord_self {b : Nat} (hb : b < 18446744073709551616) : (Ieee.double.order b b != some .eq) = fNaN b := by
  unfold Ieee.Format.order
  rcases tri (b := b) with h | ⟨h, h'⟩ | ⟨h, h', _⟩
  · rw [read_nan hb h, h]; rfl
  · rw [read_inf hb h, h']; simp [Ieee.Datum.order]
  · obtain ⟨m, p, e, _⟩ := read_num hb h
    rw [e, h']; simp [Ieee.Datum.order]
theorem ord_zero {b : Nat} (hb : b < 18446744073709551616) : (Ieee.double.order b 0 == some .lt) = fNeg b ∧ (Ieee.double.order b 0 == some .gt) = fPos b := by
  unfold Ieee.Format.order
  rw [read_zero]
  rcases tri (b := b) with h | ⟨h, h'⟩ | ⟨h, h', _⟩
  · have h2 : 9218868437227405312 < fR b := by simpa [fNaN] using h
    rw [read_nan hb h]
    have e1 : decide (fR b ≤ 9218868437227405312) = false := by simp; omega
    simp [Ieee.Datum.order, fNeg, fPos, e1]
  · have h2 : fR b = 9218868437227405312 := by simpa [fInf] using h
    rw [read_inf hb h]
    simp only [Ieee.Datum.order, fNeg, fPos, h2]
    cases fS b <;> simp
  · obtain ⟨m, p, e, hz, _⟩ := read_num hb h
    rw [e]
    have e1 : decide (fR b ≤ 9218868437227405312) = true := by simp; omega
    have z : ∀ k, Ieee.signed false 0 k = 0 := fun k => by simp [Ieee.signed]
    simp only [Ieee.Datum.order, fNeg, fPos, e1, z, Bool.and_true]
    by_cases hm : m = 0
    · have h0 := hz.1 hm
      subst hm
      have z2 : ∀ k, Ieee.signed (fS b) 0 k = 0 := fun k => by cases fS b <;> simp [Ieee.signed]
      simp [h0, z2]
    · have h0 : fR b ≠ 0 := fun h => hm (hz.2 h)
      have hp := sh_pos (k := (p - min p (-1074)).toNat) hm
      cases hs : fS b
      · have c : compare (Ieee.signed false m (p - min p (-1074)).toNat) 0 = .gt := Int.compare_eq_gt.2 (show (0 : Int) < ((m <<< (p - min p (-1074)).toNat : Nat) : Int) from Int.ofNat_lt.2 hp)
        rw [c]; simp [h0]
      · have c : compare (Ieee.signed true m (p - min p (-1074)).toNat) 0 = .lt := Int.compare_eq_lt.2 (show -((m <<< (p - min p (-1074)).toNat : Nat) : Int) < 0 from by generalize m <<< (p - min p (-1074)).toNat = q at hp ⊢; omega)
        rw [c]; simp [h0]
theorem ord_max {b : Nat} (hb : b < 18446744073709551616) : (Ieee.double.order b 9218868437227405311 == some .gt) = (!fS b && fInf b) := by
  unfold Ieee.Format.order
  rw [read_max]
  rcases tri (b := b) with h | ⟨h, h'⟩ | ⟨h, h', hi⟩
  · have h2 : 9218868437227405312 < fR b := by simpa [fNaN] using h
    rw [read_nan hb h]
    have e1 : fInf b = false := by unfold fInf; simp; omega
    simp [Ieee.Datum.order, e1]
  · rw [read_inf hb h, h]
    simp only [Ieee.Datum.order]
    cases fS b <;> simp
  · obtain ⟨m, p, e, hz, hm, hp1, hp2⟩ := read_num hb h
    rw [e, hi]
    simp only [Ieee.Datum.order, Bool.and_false]
    have e1 : (p - min p 971).toNat = 0 := by omega
    have e2 : m ≤ 9007199254740991 <<< (971 - min p 971).toNat := by
      rw [Nat.shiftLeft_eq]
      exact Nat.le_trans hm (Nat.le_mul_of_pos_right _ (Nat.two_pow_pos _))
    have c : ¬ compare (Ieee.signed (fS b) m (p - min p 971).toNat) (Ieee.signed false 9007199254740991 (971 - min p 971).toNat) = .gt := by
      rw [Int.compare_eq_gt, e1]
      cases fS b
      · show ¬ ((9007199254740991 <<< (971 - min p 971).toNat : Nat) : Int) < ((m <<< 0 : Nat) : Int)
        rw [Nat.shiftLeft_zero]
        generalize 9007199254740991 <<< (971 - min p 971).toNat = q at e2 ⊢
        omega
      · show ¬ ((9007199254740991 <<< (971 - min p 971).toNat : Nat) : Int) < -((m <<< 0 : Nat) : Int)
        rw [Nat.shiftLeft_zero]
        generalize 9007199254740991 <<< (971 - min p 971).toNat = q at e2 ⊢
        omega
    simp [c]
section
variable {P : Program} {ops : Array Oper} {Q : Exit → Act → World → Prop} {rest : List Oper} {n d ty : Nat} {pos : String} {af : Array Edge} {ρ : Env} {ds : List Deferred} {w w' : World} {g : Gh} {L : List Asn} {x y : Operand} {T U b : Nat}
theorem xfnn (hx : ev n ρ x = some (.float .f64 b)) (hy : ev n ρ y = some (.float .f64 b)) (hb : b < 18446744073709551616)
    (h : wpList P ops Q rest (mk n (upd ρ d (.bool (fNaN b))) ds) w) : wpList P ops Q (⟨some d, .binOp .neq T x y U, ty, pos, af, none⟩ :: rest) (mk n ρ ds) w :=
  st_val (by rw [← ord_self hb]; simp [execOp, mk_eval hx, mk_eval hy, eqGuard, binOp, Op.floatCmp, FloatKind.format]) h
theorem xflz (hx : ev n ρ x = some (.float .f64 b)) (hy : ev n ρ y = some (.float .f64 0)) (hb : b < 18446744073709551616)
    (h : wpList P ops Q rest (mk n (upd ρ d (.bool (fNeg b))) ds) w) : wpList P ops Q (⟨some d, .binOp .lss T x y U, ty, pos, af, none⟩ :: rest) (mk n ρ ds) w :=
  st_val (by rw [← (ord_zero hb).1]; simp [execOp, mk_eval hx, mk_eval hy, eqGuard, binOp, Op.floatCmp, FloatKind.format]) h
theorem xfgz (hx : ev n ρ x = some (.float .f64 b)) (hy : ev n ρ y = some (.float .f64 0)) (hb : b < 18446744073709551616)
    (h : wpList P ops Q rest (mk n (upd ρ d (.bool (fPos b))) ds) w) : wpList P ops Q (⟨some d, .binOp .gtr T x y U, ty, pos, af, none⟩ :: rest) (mk n ρ ds) w :=
  st_val (by rw [← (ord_zero hb).2]; simp [execOp, mk_eval hx, mk_eval hy, eqGuard, binOp, Op.floatCmp, FloatKind.format]) h
theorem xfgm (hx : ev n ρ x = some (.float .f64 b)) (hy : ev n ρ y = some (.float .f64 9218868437227405311)) (hb : b < 18446744073709551616)
    (h : wpList P ops Q rest (mk n (upd ρ d (.bool (!fS b && fInf b))) ds) w) : wpList P ops Q (⟨some d, .binOp .gtr T x y U, ty, pos, af, none⟩ :: rest) (mk n ρ ds) w :=
  st_val (by rw [← ord_max hb]; simp [execOp, mk_eval hx, mk_eval hy, eqGuard, binOp, Op.floatCmp, FloatKind.format]) h
theorem xfng (hx : ev n ρ x = some (.float .f64 b))
    (h : wpList P ops Q rest (mk n (upd ρ d (.float .f64 (b ^^^ 9223372036854775808))) ds) w) : wpList P ops Q (⟨some d, .unOp .neg T x, ty, pos, af, none⟩ :: rest) (mk n ρ ds) w :=
  st_val (by simp [execOp, mk_eval hx, Op.unary, Op.negFloat, FloatKind.format, Ieee.double]) h
theorem xcext {f : FuncId} {fn : Func} {e : Array Value → Sem Value} {xs : List Operand} {ats : Array TypeId} {xas : List Value} {v : Value} (hf : P.funcs[f]? = some fn) (hname : (fn.name == "runtime.NumGoroutine") = false)
    (hb : fn.body.isNone = true) (hn : Extern.findNext fn = none) (he : Extern.find fn = some e) (hv : ∀ w, (e xas.toArray).run P w = .ok v w) {fv : Operand} (hfv : ev n ρ fv = some (.func (.func f) #[] #[])) (ha : evl n ρ xs = some xas)
    (h : wpList P ops Q rest (mk n (upd ρ d v) ds) w) : wpList P ops Q (⟨some d, .call { callee := .value fv, args := xs.toArray, argTypes := ats }, ty, pos, af, none⟩ :: rest) (mk n ρ ds) w := by
  refine st_val ?_ h
  have e1 := mk_evl (ds := ds) ha
  have h1 := run_callFunc_extern hf hname hb hn he xas.toArray w
  simp only [execOp, resolve, mk_eval hfv, Sem.run_bind]
  simp [invoke, Deferred.ofValue, e1, h1, hv]
theorem xffb {f : FuncId} {fn : Func} {xs : List Operand} {ats : Array TypeId} {a : Nat} (hf : P.funcs[f]? = some fn) (hname : (fn.name == "runtime.NumGoroutine") = false)
    (hb : fn.body.isNone = true) (hn : Extern.findNext fn = none) (he : Extern.find fn = some Extern.MathFloatBits.float64frombits) {fv : Operand} (hfv : ev n ρ fv = some (.func (.func f) #[] #[])) (ha : evl n ρ xs = some [.int .u64 (a : Nat)])
    (h : wpList P ops Q rest (mk n (upd ρ d (.float .f64 a)) ds) w) : wpList P ops Q (⟨some d, .call { callee := .value fv, args := xs.toArray, argTypes := ats }, ty, pos, af, none⟩ :: rest) (mk n ρ ds) w :=
  xcext hf hname hb hn he (fun _ => rfl) hfv ha h
theorem xfbb {f : FuncId} {fn : Func} {xs : List Operand} {ats : Array TypeId} {a : Nat} (hf : P.funcs[f]? = some fn) (hname : (fn.name == "runtime.NumGoroutine") = false)
    (hb : fn.body.isNone = true) (hn : Extern.findNext fn = none) (he : Extern.find fn = some Extern.MathFloatBits.float64bits) {fv : Operand} (hfv : ev n ρ fv = some (.func (.func f) #[] #[])) (ha : evl n ρ xs = some [.float .f64 a])
    (h : wpList P ops Q rest (mk n (upd ρ d (.int .u64 (a : Nat))) ds) w) : wpList P ops Q (⟨some d, .call { callee := .value fv, args := xs.toArray, argTypes := ats }, ty, pos, af, none⟩ :: rest) (mk n ρ ds) w :=
  xcext hf hname hb hn he (fun _ => rfl) hfv ha h
theorem xan63 {a : Nat} (hx : ev n ρ x = some (.int .u64 (a : Nat))) (hy : ev n ρ y = some (.int .u64 9223372036854775808)) (ha : a < 18446744073709551616)
    (h : wpList P ops Q rest (mk n (upd ρ d (.int .u64 ((fR a : Nat) : Int))) ds) w) : wpList P ops Q (⟨some d, .binOp .andNot T x y U, ty, pos, af, none⟩ :: rest) (mk n ρ ds) w := by
  refine xanot hx hy ?_
  have e : bitsI .andNot .u64 (a : Int) 9223372036854775808 = ((fR a : Nat) : Int) := by
    show IntKind.u64.wrap (((BitVec.ofInt 64 (a : Int)) &&& ~~~(BitVec.ofInt 64 9223372036854775808)).toNat : Int) = _
    have e1 : ~~~(BitVec.ofInt 64 9223372036854775808) = BitVec.ofNat 64 9223372036854775807 := by decide
    rw [e1, BitVec.toNat_and, BitVec.ofInt_natCast, BitVec.toNat_ofNat, BitVec.toNat_ofNat, Nat.mod_eq_of_lt (show a < 2 ^ 64 from ha)]
    have e3 : a &&& 9223372036854775807 % 2 ^ 64 = fR a := Nat.and_two_pow_sub_one_eq_mod a 63
    rw [e3]
    exact wrapN (k := .u64) rfl (by show fR a < 18446744073709551616; unfold fR; omega)
  rw [e]; exact h
end
end Go.Proofs.YtegllbmkkfnajaaGreatDoor
end
section
namespace Go.Proofs.YtegllbmkkfnajaaGreatDoor
open Go Go.Proofs
theorem fo_mk {P : Program} {T i o : Nat} {fs : Array Field} {f : Field} {m : Nat} (h : P.underlying T = some (.struct fs)) (hf : fs[i]? = some f) (ho : f.offset = o) (hs : ∀ w, (sizeOf f.type).run P w = .ok (m + 1) w) : TFo P T i o :=
  ⟨fun b off w => by
    subst ho
    simp only [Instr.fieldAt, Sem.run_bind, run_underlying h, Result.andThen_ok, hf, Instr.sureAddr, Sem.run_pure, fieldPlace, hs]
    simp only [Nat.add_one_ne_zero, if_false, Sem.run_pure, Result.andThen_ok]
    unfold Addr.add
    split
    · rename_i e; rw [e]; rfl
    · rfl⟩
inductive FMap (P : Program) : List Field → List (Nat × Nat) → Prop
  | nil : FMap P [] []
  | cons {f : Field} {l : List Field} {s : Nat} {m : List (Nat × Nat)} (h : ∀ w, (sizeOf f.type).run P w = .ok s w) (r : FMap P l m) : FMap P (f :: l) ((f.offset, s) :: m)
theorem fmap_nil {P : Program} : FMap P [] [] := .nil
theorem fmap_cons {P : Program} {a t o : _} {e : Bool} {g p : String} {y : Nat} {l : List Field} {s : Nat} {m : List (Nat × Nat)} (h : ∀ w, (sizeOf t).run P w = .ok s w) (r : FMap P l m) : FMap P (⟨a, t, o, e, g, p, y⟩ :: l) ((o, s) :: m) := .cons h r
theorem fmap_run {P : Program} {l : List Field} {m : List (Nat × Nat)} (h : FMap P l m) (w : World) : (l.mapM (fun f => do pure (f.offset, ← sizeOf f.type) : Field → Sem (Nat × Nat))).run P w = .ok m w := by
  induction h with
  | nil => simp
  | cons h _ ih => simp only [List.mapM_cons, Sem.run_bind, h w, Result.andThen_ok, Sem.run_pure, ih]
theorem fmap_ok {P : Program} {l : List Field} {m : List (Nat × Nat)} {w : World} (h : FMap P l m) : (l.toArray.mapM (fun f => do pure (f.offset, ← sizeOf f.type) : Field → Sem (Nat × Nat))).run P w = .ok m.toArray w := by
  have := fmap_run h w
  rw [List.mapM_toArray, map_eq_pure_bind]
  simp only [Sem.run_bind, this, Result.andThen_ok, Sem.run_pure]
theorem info_of {P : Program} {t : TypeId} {i : TypeInfo} (h : ∀ w, (typeInfo t).run P w = .ok i w) : P.info? t = some i := by
  have := h default
  cases e : P.info? t with
  | none => simp [typeInfo, e] at this
  | some j => simp [typeInfo, e] at this; rw [this]
theorem z_mk {P : Program} {T : Nat} {v : Value} {z : List Value} (h : ∀ w, (zeroValue T).run P w = .ok v w) (hc : v.cells = z.toArray) : TZ P T z := ⟨fun w => ⟨v, h w, hc⟩⟩
instance ty1 : TSc Tryz.prog 1 := ⟨Tryz.isAgg1, Tryz.sizeOf1⟩
instance ty2 : TSz Tryz.prog 1 1 := ⟨Tryz.sizeOf1⟩
instance ty11 : TInt Tryz.prog 2 .i64 := ⟨Tryz.underlying2⟩
instance ty12 : TSc Tryz.prog 3 := ⟨Tryz.isAgg3, Tryz.sizeOf3⟩
instance ty14 : TZ Tryz.prog 3 [.int .i64 0] := z_mk Tryz.zeroValue3 rfl
instance ty17 : TInt Tryz.prog 3 .i64 := ⟨Tryz.underlying3⟩
instance ty18 : TSc Tryz.prog 4 := ⟨Tryz.isAgg4, Tryz.sizeOf4⟩
instance ty20 : TZ Tryz.prog 4 [.bool false] := z_mk Tryz.zeroValue4 rfl
instance ty24 : TSc Tryz.prog 5 := ⟨Tryz.isAgg5, Tryz.sizeOf5⟩
instance ty27 : TEl Tryz.prog 5 1 1 [.int .u8 0] := ⟨⟨Tryz.t5, _, info_of Tryz.typeInfo5, rfl, rfl, rfl, rfl⟩, rfl, by decide⟩
instance ty29 : TInt Tryz.prog 5 .u8 := ⟨Tryz.underlying5⟩
instance ty54 : TSc Tryz.prog 9 := ⟨Tryz.isAgg9, Tryz.sizeOf9⟩
instance ty57 : TEl Tryz.prog 9 1 16 [.string ByteArray.empty] := ⟨⟨Tryz.t9, _, info_of Tryz.typeInfo9, rfl, rfl, rfl, rfl⟩, rfl, by decide⟩
instance ty59 : TNi Tryz.prog 9 := ⟨.inr Tryz.underlying9⟩
instance ty60 : TStr Tryz.prog 9 := ⟨Tryz.underlying9⟩
instance ty135 : TInt Tryz.prog 21 .i32 := ⟨Tryz.underlying21⟩
instance ty136 : TSc Tryz.prog 22 := ⟨Tryz.isAgg22, Tryz.sizeOf22⟩
instance ty138 : TZ Tryz.prog 22 [.int .u64 0] := z_mk Tryz.zeroValue22 rfl
instance ty139 : TEl Tryz.prog 22 1 8 [.int .u64 0] := ⟨⟨Tryz.t22, _, info_of Tryz.typeInfo22, rfl, rfl, rfl, rfl⟩, rfl, by decide⟩
instance ty141 : TInt Tryz.prog 22 .u64 := ⟨Tryz.underlying22⟩
instance ty153 : TAg Tryz.prog 24 6 := ⟨Tryz.isAgg24, Tryz.sizeOf24⟩
instance ty155 : TZ Tryz.prog 24 [.int .u64 0, .int .i64 0, .string ByteArray.empty, .int .u64 0, .int .u64 0, .int .u64 0] := z_mk Tryz.zeroValue24 rfl
instance ty156 : TEl Tryz.prog 24 6 56 [.int .u64 0, .int .i64 0, .string ByteArray.empty, .int .u64 0, .int .u64 0, .int .u64 0] := ⟨⟨Tryz.t24, _, info_of Tryz.typeInfo24, rfl, rfl, rfl, rfl⟩, rfl, by decide⟩
instance ty157 : TSt Tryz.prog 24 [.int .u64 0, .int .i64 0, .string ByteArray.empty, .int .u64 0, .int .u64 0, .int .u64 0] [(0, 1), (1, 1), (2, 1), (3, 1), (4, 1), (5, 1)] := ⟨fun w => ⟨_, Tryz.zeroValue24 w, rfl⟩, ⟨_, Tryz.underlying24, fun w => fmap_ok (by refine fmap_cons Tryz.sizeOf22 ?_; refine fmap_cons Tryz.sizeOf3 ?_; refine fmap_cons Tryz.sizeOf9 ?_; refine fmap_cons Tryz.sizeOf22 ?_; refine fmap_cons Tryz.sizeOf22 ?_; refine fmap_cons Tryz.sizeOf22 ?_; exact fmap_nil)⟩⟩
instance ty158 : TFo Tryz.prog 24 0 0 := fo_mk Tryz.underlying24 rfl rfl Tryz.sizeOf22
instance ty159 : TFo Tryz.prog 24 1 1 := fo_mk Tryz.underlying24 rfl rfl Tryz.sizeOf3
instance ty160 : TFo Tryz.prog 24 2 2 := fo_mk Tryz.underlying24 rfl rfl Tryz.sizeOf9
instance ty161 : TFo Tryz.prog 24 3 3 := fo_mk Tryz.underlying24 rfl rfl Tryz.sizeOf22
instance ty162 : TFo Tryz.prog 24 4 4 := fo_mk Tryz.underlying24 rfl rfl Tryz.sizeOf22
instance ty163 : TFo Tryz.prog 24 5 5 := fo_mk Tryz.underlying24 rfl rfl Tryz.sizeOf22
instance ty169 : TSc Tryz.prog 26 := ⟨Tryz.isAgg26, Tryz.sizeOf26⟩
instance ty174 : TPt Tryz.prog 26 54 := ⟨Tryz.underlying26⟩
instance ty175 : TSc Tryz.prog 27 := ⟨Tryz.isAgg27, Tryz.sizeOf27⟩
instance ty177 : TZ Tryz.prog 27 [.int .i64 0] := z_mk Tryz.zeroValue27 rfl
instance ty191 : TSc Tryz.prog 32 := ⟨Tryz.isAgg32, Tryz.sizeOf32⟩
instance ty196 : TPt Tryz.prog 32 57 := ⟨Tryz.underlying32⟩
instance ty227 : TSc Tryz.prog 39 := ⟨Tryz.isAgg39, Tryz.sizeOf39⟩
instance ty232 : TNi Tryz.prog 39 := ⟨.inl ⟨_, Tryz.underlying39⟩⟩
instance ty233 : TSl Tryz.prog 39 63 2 := ⟨Tryz.underlying39, Tryz.sizeOf63⟩
instance ty234 : TSc Tryz.prog 40 := ⟨Tryz.isAgg40, Tryz.sizeOf40⟩
instance ty239 : TNi Tryz.prog 40 := ⟨.inl ⟨_, Tryz.underlying40⟩⟩
instance ty240 : TSl Tryz.prog 40 65 6 := ⟨Tryz.underlying40, Tryz.sizeOf65⟩
instance ty253 : TAg Tryz.prog 42 7 := ⟨Tryz.isAgg42, Tryz.sizeOf42⟩
instance ty255 : TZ Tryz.prog 42 [.string ByteArray.empty, .int .u64 0, .int .u64 0, .int .u64 0, .int .u64 0, .slice none 0 0, .slice none 0 0] := z_mk Tryz.zeroValue42 rfl
instance ty256 : TEl Tryz.prog 42 7 96 [.string ByteArray.empty, .int .u64 0, .int .u64 0, .int .u64 0, .int .u64 0, .slice none 0 0, .slice none 0 0] := ⟨⟨Tryz.t42, _, info_of Tryz.typeInfo42, rfl, rfl, rfl, rfl⟩, rfl, by decide⟩
instance ty257 : TSt Tryz.prog 42 [.string ByteArray.empty, .int .u64 0, .int .u64 0, .int .u64 0, .int .u64 0, .slice none 0 0, .slice none 0 0] [(0, 1), (1, 1), (2, 1), (3, 1), (4, 1), (5, 1), (6, 1)] := ⟨fun w => ⟨_, Tryz.zeroValue42 w, rfl⟩, ⟨_, Tryz.underlying42, fun w => fmap_ok (by refine fmap_cons Tryz.sizeOf9 ?_; refine fmap_cons Tryz.sizeOf22 ?_; refine fmap_cons Tryz.sizeOf22 ?_; refine fmap_cons Tryz.sizeOf22 ?_; refine fmap_cons Tryz.sizeOf22 ?_; refine fmap_cons Tryz.sizeOf39 ?_; refine fmap_cons Tryz.sizeOf40 ?_; exact fmap_nil)⟩⟩
instance ty258 : TFo Tryz.prog 42 0 0 := fo_mk Tryz.underlying42 rfl rfl Tryz.sizeOf9
instance ty259 : TFo Tryz.prog 42 1 1 := fo_mk Tryz.underlying42 rfl rfl Tryz.sizeOf22
instance ty260 : TFo Tryz.prog 42 2 2 := fo_mk Tryz.underlying42 rfl rfl Tryz.sizeOf22
instance ty261 : TFo Tryz.prog 42 3 3 := fo_mk Tryz.underlying42 rfl rfl Tryz.sizeOf22
instance ty262 : TFo Tryz.prog 42 4 4 := fo_mk Tryz.underlying42 rfl rfl Tryz.sizeOf22
instance ty263 : TFo Tryz.prog 42 5 5 := fo_mk Tryz.underlying42 rfl rfl Tryz.sizeOf39
instance ty264 : TFo Tryz.prog 42 6 6 := fo_mk Tryz.underlying42 rfl rfl Tryz.sizeOf40
instance ty275 : TSc Tryz.prog 45 := ⟨Tryz.isAgg45, Tryz.sizeOf45⟩
instance ty280 : TNi Tryz.prog 45 := ⟨.inl ⟨_, Tryz.underlying45⟩⟩
instance ty281 : TSl Tryz.prog 45 42 7 := ⟨Tryz.underlying45, Tryz.sizeOf42⟩
instance ty289 : TAg Tryz.prog 47 2 := ⟨Tryz.isAgg47, Tryz.sizeOf47⟩
instance ty291 : TZ Tryz.prog 47 [.int .u64 0, .slice none 0 0] := z_mk Tryz.zeroValue47 rfl
instance ty293 : TSt Tryz.prog 47 [.int .u64 0, .slice none 0 0] [(0, 1), (1, 1)] := ⟨fun w => ⟨_, Tryz.zeroValue47 w, rfl⟩, ⟨_, Tryz.underlying47, fun w => fmap_ok (by refine fmap_cons Tryz.sizeOf22 ?_; refine fmap_cons Tryz.sizeOf45 ?_; exact fmap_nil)⟩⟩
instance ty294 : TFo Tryz.prog 47 0 0 := fo_mk Tryz.underlying47 rfl rfl Tryz.sizeOf22
instance ty295 : TFo Tryz.prog 47 1 1 := fo_mk Tryz.underlying47 rfl rfl Tryz.sizeOf45
instance ty316 : TSc Tryz.prog 52 := ⟨Tryz.isAgg52, Tryz.sizeOf52⟩
instance ty321 : TPt Tryz.prog 52 80 := ⟨Tryz.underlying52⟩
instance ty334 : TSt Tryz.prog 54 [.pointer none, .pointer none, .int .u64 0, .slice none 0 0] [(0, 1), (1, 1), (2, 2)] := ⟨fun w => ⟨_, Tryz.zeroValue54 w, rfl⟩, ⟨_, Tryz.underlying54, fun w => fmap_ok (by refine fmap_cons Tryz.sizeOf32 ?_; refine fmap_cons Tryz.sizeOf52 ?_; refine fmap_cons Tryz.sizeOf47 ?_; exact fmap_nil)⟩⟩
instance ty335 : TFo Tryz.prog 54 0 0 := fo_mk Tryz.underlying54 rfl rfl Tryz.sizeOf32
instance ty336 : TFo Tryz.prog 54 1 1 := fo_mk Tryz.underlying54 rfl rfl Tryz.sizeOf52
instance ty337 : TFo Tryz.prog 54 2 2 := fo_mk Tryz.underlying54 rfl rfl Tryz.sizeOf47
instance ty338 : TSc Tryz.prog 55 := ⟨Tryz.isAgg55, Tryz.sizeOf55⟩
instance ty343 : TMp Tryz.prog 55 9 58 := ⟨Tryz.underlying55⟩
instance ty360 : TSt Tryz.prog 57 [.map none, .int .i64 0, .int .u64 0, .bool false, .int .u64 0, .int .i64 0, .bool false] [(0, 1), (1, 1), (2, 1), (3, 1), (4, 1), (5, 1), (6, 1)] := ⟨fun w => ⟨_, Tryz.zeroValue57 w, rfl⟩, ⟨_, Tryz.underlying57, fun w => fmap_ok (by refine fmap_cons Tryz.sizeOf55 ?_; refine fmap_cons Tryz.sizeOf3 ?_; refine fmap_cons Tryz.sizeOf22 ?_; refine fmap_cons Tryz.sizeOf4 ?_; refine fmap_cons Tryz.sizeOf22 ?_; refine fmap_cons Tryz.sizeOf3 ?_; refine fmap_cons Tryz.sizeOf4 ?_; exact fmap_nil)⟩⟩
instance ty361 : TFo Tryz.prog 57 0 0 := fo_mk Tryz.underlying57 rfl rfl Tryz.sizeOf55
instance ty362 : TFo Tryz.prog 57 1 1 := fo_mk Tryz.underlying57 rfl rfl Tryz.sizeOf3
instance ty363 : TFo Tryz.prog 57 2 2 := fo_mk Tryz.underlying57 rfl rfl Tryz.sizeOf22
instance ty364 : TFo Tryz.prog 57 3 3 := fo_mk Tryz.underlying57 rfl rfl Tryz.sizeOf4
instance ty365 : TFo Tryz.prog 57 4 4 := fo_mk Tryz.underlying57 rfl rfl Tryz.sizeOf22
instance ty366 : TFo Tryz.prog 57 5 5 := fo_mk Tryz.underlying57 rfl rfl Tryz.sizeOf3
instance ty367 : TFo Tryz.prog 57 6 6 := fo_mk Tryz.underlying57 rfl rfl Tryz.sizeOf4
instance ty372 : TZv Tryz.prog 58 (.pointer none) := ⟨Tryz.zeroValue58⟩
instance ty373 : TPt Tryz.prog 58 61 := ⟨Tryz.underlying58⟩
instance ty374 : TSc Tryz.prog 59 := ⟨Tryz.isAgg59, Tryz.sizeOf59⟩
instance ty376 : TZ Tryz.prog 59 [.slice none 0 0] := z_mk Tryz.zeroValue59 rfl
instance ty377 : TEl Tryz.prog 59 1 24 [.slice none 0 0] := ⟨⟨Tryz.t59, _, info_of Tryz.typeInfo59, rfl, rfl, rfl, rfl⟩, rfl, by decide⟩
instance ty379 : TNi Tryz.prog 59 := ⟨.inl ⟨_, Tryz.underlying59⟩⟩
instance ty380 : TSl Tryz.prog 59 5 1 := ⟨Tryz.underlying59, Tryz.sizeOf5⟩
instance ty390 : TZ Tryz.prog 61 [.slice none 0 0, .int .i64 0] := z_mk Tryz.zeroValue61 rfl
instance ty393 : TFo Tryz.prog 61 0 0 := fo_mk Tryz.underlying61 rfl rfl Tryz.sizeOf59
instance ty394 : TFo Tryz.prog 61 1 1 := fo_mk Tryz.underlying61 rfl rfl Tryz.sizeOf3
instance ty402 : TAg Tryz.prog 63 2 := ⟨Tryz.isAgg63, Tryz.sizeOf63⟩
instance ty404 : TZ Tryz.prog 63 [.int .u64 0, .int .u64 0] := z_mk Tryz.zeroValue63 rfl
instance ty405 : TEl Tryz.prog 63 2 16 [.int .u64 0, .int .u64 0] := ⟨⟨Tryz.t63, _, info_of Tryz.typeInfo63, rfl, rfl, rfl, rfl⟩, rfl, by decide⟩
instance ty406 : TSt Tryz.prog 63 [.int .u64 0, .int .u64 0] [(0, 1), (1, 1)] := ⟨fun w => ⟨_, Tryz.zeroValue63 w, rfl⟩, ⟨_, Tryz.underlying63, fun w => fmap_ok (by refine fmap_cons Tryz.sizeOf22 ?_; refine fmap_cons Tryz.sizeOf22 ?_; exact fmap_nil)⟩⟩
instance ty407 : TFo Tryz.prog 63 0 0 := fo_mk Tryz.underlying63 rfl rfl Tryz.sizeOf22
instance ty408 : TFo Tryz.prog 63 1 1 := fo_mk Tryz.underlying63 rfl rfl Tryz.sizeOf22
instance ty420 : TAg Tryz.prog 65 6 := ⟨Tryz.isAgg65, Tryz.sizeOf65⟩
instance ty422 : TZ Tryz.prog 65 [.string ByteArray.empty, .int .u64 0, .int .u64 0, .int .u64 0, .int .u64 0, .int .u64 0] := z_mk Tryz.zeroValue65 rfl
instance ty423 : TEl Tryz.prog 65 6 56 [.string ByteArray.empty, .int .u64 0, .int .u64 0, .int .u64 0, .int .u64 0, .int .u64 0] := ⟨⟨Tryz.t65, _, info_of Tryz.typeInfo65, rfl, rfl, rfl, rfl⟩, rfl, by decide⟩
instance ty424 : TSt Tryz.prog 65 [.string ByteArray.empty, .int .u64 0, .int .u64 0, .int .u64 0, .int .u64 0, .int .u64 0] [(0, 1), (1, 1), (2, 1), (3, 1), (4, 1), (5, 1)] := ⟨fun w => ⟨_, Tryz.zeroValue65 w, rfl⟩, ⟨_, Tryz.underlying65, fun w => fmap_ok (by refine fmap_cons Tryz.sizeOf9 ?_; refine fmap_cons Tryz.sizeOf22 ?_; refine fmap_cons Tryz.sizeOf22 ?_; refine fmap_cons Tryz.sizeOf22 ?_; refine fmap_cons Tryz.sizeOf22 ?_; refine fmap_cons Tryz.sizeOf22 ?_; exact fmap_nil)⟩⟩
instance ty425 : TFo Tryz.prog 65 0 0 := fo_mk Tryz.underlying65 rfl rfl Tryz.sizeOf9
instance ty426 : TFo Tryz.prog 65 1 1 := fo_mk Tryz.underlying65 rfl rfl Tryz.sizeOf22
instance ty427 : TFo Tryz.prog 65 2 2 := fo_mk Tryz.underlying65 rfl rfl Tryz.sizeOf22
instance ty428 : TFo Tryz.prog 65 3 3 := fo_mk Tryz.underlying65 rfl rfl Tryz.sizeOf22
instance ty429 : TFo Tryz.prog 65 4 4 := fo_mk Tryz.underlying65 rfl rfl Tryz.sizeOf22
instance ty430 : TFo Tryz.prog 65 5 5 := fo_mk Tryz.underlying65 rfl rfl Tryz.sizeOf22
instance ty447 : TAg Tryz.prog 69 1 := ⟨Tryz.isAgg69, Tryz.sizeOf69⟩
instance ty449 : TZ Tryz.prog 69 [.int .i64 0] := z_mk Tryz.zeroValue69 rfl
instance ty451 : TSt Tryz.prog 69 [.int .i64 0] [(0, 1)] := ⟨fun w => ⟨_, Tryz.zeroValue69 w, rfl⟩, ⟨_, Tryz.underlying69, fun w => fmap_ok (by refine fmap_cons Tryz.sizeOf27 ?_; exact fmap_nil)⟩⟩
instance ty452 : TFo Tryz.prog 69 0 0 := fo_mk Tryz.underlying69 rfl rfl Tryz.sizeOf27
instance ty458 : TSc Tryz.prog 73 := ⟨Tryz.isAgg73, Tryz.sizeOf73⟩
instance ty463 : TNi Tryz.prog 73 := ⟨.inl ⟨_, Tryz.underlying73⟩⟩
instance ty464 : TSl Tryz.prog 73 24 6 := ⟨Tryz.underlying73, Tryz.sizeOf24⟩
instance ty499 : TSt Tryz.prog 80 [.pointer none, .int .u64 0, .int .u64 0, .int .u64 0, .slice none 0 0] [(0, 1), (1, 1), (2, 1), (3, 1), (4, 1)] := ⟨fun w => ⟨_, Tryz.zeroValue80 w, rfl⟩, ⟨_, Tryz.underlying80, fun w => fmap_ok (by refine fmap_cons Tryz.sizeOf32 ?_; refine fmap_cons Tryz.sizeOf22 ?_; refine fmap_cons Tryz.sizeOf22 ?_; refine fmap_cons Tryz.sizeOf22 ?_; refine fmap_cons Tryz.sizeOf73 ?_; exact fmap_nil)⟩⟩
instance ty500 : TFo Tryz.prog 80 0 0 := fo_mk Tryz.underlying80 rfl rfl Tryz.sizeOf32
instance ty501 : TFo Tryz.prog 80 1 1 := fo_mk Tryz.underlying80 rfl rfl Tryz.sizeOf22
instance ty502 : TFo Tryz.prog 80 2 2 := fo_mk Tryz.underlying80 rfl rfl Tryz.sizeOf22
instance ty503 : TFo Tryz.prog 80 3 3 := fo_mk Tryz.underlying80 rfl rfl Tryz.sizeOf22
instance ty504 : TFo Tryz.prog 80 4 4 := fo_mk Tryz.underlying80 rfl rfl Tryz.sizeOf73
instance ty513 : TZ Tryz.prog 82 [.slice none 0 0] := z_mk Tryz.zeroValue82 rfl
instance ty516 : TFo Tryz.prog 82 0 0 := fo_mk Tryz.underlying82 rfl rfl Tryz.sizeOf59
instance ty597 : TSc Tryz.prog 102 := ⟨Tryz.isAgg102, Tryz.sizeOf102⟩
instance ty599 : TZ Tryz.prog 102 [.slice none 0 0] := z_mk Tryz.zeroValue102 rfl
instance ty602 : TNi Tryz.prog 102 := ⟨.inl ⟨_, Tryz.underlying102⟩⟩
instance ty603 : TSl Tryz.prog 102 59 1 := ⟨Tryz.underlying102, Tryz.sizeOf59⟩
instance ty609 : TNi Tryz.prog 103 := ⟨.inl ⟨_, Tryz.underlying103⟩⟩
instance ty610 : TSl Tryz.prog 103 22 1 := ⟨Tryz.underlying103, Tryz.sizeOf22⟩
instance ty616 : TSc Tryz.prog 105 := ⟨Tryz.isAgg105, Tryz.sizeOf105⟩
instance ty621 : TNi Tryz.prog 105 := ⟨.inl ⟨_, Tryz.underlying105⟩⟩
instance ty622 : TSl Tryz.prog 105 9 1 := ⟨Tryz.underlying105, Tryz.sizeOf9⟩
instance ty641 : TZ Tryz.prog 109 [.int .u8 0, .int .u8 0, .int .u8 0, .int .u8 0, .int .u8 0, .int .u8 0, .int .u8 0, .int .u8 0] := z_mk Tryz.zeroValue109 rfl
instance ty643 : TAr Tryz.prog 109 8 5 1 := ⟨Tryz.underlying109, Tryz.sizeOf5⟩
instance ty734 : TSc Tryz.prog 129 := ⟨Tryz.isAgg129, Tryz.sizeOf129⟩
instance ty736 : TZ Tryz.prog 129 [.pointer none] := z_mk Tryz.zeroValue129 rfl
instance ty739 : TPt Tryz.prog 129 171 := ⟨Tryz.underlying129⟩
instance ty820 : TInt Tryz.prog 147 .u64 := ⟨Tryz.underlying147⟩
instance ty841 : TInt Tryz.prog 151 .u32 := ⟨Tryz.underlying151⟩
instance ty941 : TSt Tryz.prog 171 [.slice none 0 0, .int .i64 0, .int .i64 0] [(0, 1), (1, 1), (2, 1)] := ⟨fun w => ⟨_, Tryz.zeroValue171 w, rfl⟩, ⟨_, Tryz.underlying171, fun w => fmap_ok (by refine fmap_cons Tryz.sizeOf59 ?_; refine fmap_cons Tryz.sizeOf3 ?_; refine fmap_cons Tryz.sizeOf27 ?_; exact fmap_nil)⟩⟩
instance ty942 : TFo Tryz.prog 171 0 0 := fo_mk Tryz.underlying171 rfl rfl Tryz.sizeOf59
instance ty943 : TFo Tryz.prog 171 1 1 := fo_mk Tryz.underlying171 rfl rfl Tryz.sizeOf3
instance ty944 : TFo Tryz.prog 171 2 2 := fo_mk Tryz.underlying171 rfl rfl Tryz.sizeOf27
instance ty1233 : TAr Tryz.prog 235 64 5 1 := ⟨Tryz.underlying235, Tryz.sizeOf5⟩
end Go.Proofs.YtegllbmkkfnajaaGreatDoor
end
section
namespace Go.Proofs.YtegllbmkkfnajaaGreatDoor
open Go Go.Proofs
attribute [local irreducible] Go.wpList Go.Code.wp St Fn mk
set_option maxRecDepth 20000
theorem c_isnan (b : Nat) (hb : b < 18446744073709551616) : Fn Tryz.prog 171 [.float .f64 b] [] (Ret fun v L => v = .bool (fNaN b) ∧ L = []) := by
  refine Fn.intro Tryz.call171 Tryz.func171 rfl Tryz.ntmps171 rfl ?_; intro g w Q hQ H
  refine sq ?_; intro K1 hK1; refine wp_region_lit ?_; refine xas rfl ?_; refine wpList_nil ?_; refine tn ?_; refine hK1 _ _ ?_; clear hK1 K1
  refine sq ?_; intro K2 hK2; refine wp_region_lit ?_; refine xmv rfl ?_; refine xmv rfl ?_; refine xfnn rfl rfl (by omega) ?_; refine xas rfl ?_
  refine wpList_nil ?_; refine tn ?_; refine hK2 _ _ ?_; clear hK2 K2; refine wp_ret ?_
  refine hQ _ _ _ ?_; refine r1 rfl rfl H ?_
  exact ⟨rfl, rfl⟩
theorem c_abs (b : Nat) (hb : b < 18446744073709551616) : Fn Tryz.prog 194 [.float .f64 b] [] (Ret fun v L => v = .float .f64 (fR b) ∧ L = []) := by
  refine Fn.intro Tryz.call194 Tryz.func194 rfl Tryz.ntmps194 rfl ?_; intro g w Q hQ H
  refine sq ?_; intro K1 hK1; refine wp_region_lit ?_; refine xas rfl ?_; refine wpList_nil ?_; refine tn ?_; refine hK1 _ _ ?_; clear hK1 K1
  refine sq ?_; intro K2 hK2; refine wp_region_lit ?_; refine xmv rfl ?_
  refine xfbb (f := 201) Tryz.func201 (by decide) rfl (by kernel_rfl) (by kernel_rfl) rfl rfl ?_; refine xan63 rfl rfl (by omega) ?_
  refine xffb (f := 170) Tryz.func170 (by decide) rfl (by kernel_rfl) (by kernel_rfl) rfl rfl ?_; refine xas rfl ?_; refine wpList_nil ?_
  refine tn ?_; refine hK2 _ _ ?_; clear hK2 K2; refine wp_ret ?_
  refine hQ _ _ _ ?_; refine r1 rfl rfl H ?_
  exact ⟨rfl, rfl⟩
theorem c_signbit (b : Nat) (hb : b < 18446744073709551616) : Fn Tryz.prog 200 [.float .f64 b] [] (Ret fun v L => v = .bool (fS b) ∧ L = []) := by
  refine Fn.intro Tryz.call200 Tryz.func200 rfl Tryz.ntmps200 rfl ?_; intro g w Q hQ H
  refine sq ?_; intro K1 hK1; refine wp_region_lit ?_; refine xas rfl ?_; refine wpList_nil ?_; refine tn ?_; refine hK1 _ _ ?_; clear hK1 K1
  refine sq ?_; intro K2 hK2; refine wp_region_lit ?_; refine xmv rfl ?_
  refine xfbb (f := 201) Tryz.func201 (by decide) rfl (by kernel_rfl) (by kernel_rfl) rfl rfl ?_
  refine xcv rfl ?_
  refine xlt rfl rfl ?_; refine xas rfl ?_; refine wpList_nil ?_; refine tn ?_; refine hK2 _ _ ?_; clear hK2 K2; refine wp_ret ?_
  refine hQ _ _ _ ?_; refine r1 rfl rfl H ?_
  refine ⟨?_, rfl⟩
  congr 1
  unfold fS
  simp only [IntKind.wrap, IntKind.signed, IntKind.bits]
  simp
  split <;> omega
def infAt (b : Nat) (s : Int) : Bool := if s = 0 then fInf b else if s < 0 then fS b && fInf b else !fS b && fInf b
theorem fR_lt (b : Nat) : fR b < 9223372036854775808 := Nat.mod_lt _ (by decide)
theorem fR_R (b : Nat) : fR (fR b) = fR b := Nat.mod_eq_of_lt (fR_lt b)
theorem fS_R (b : Nat) : fS (fR b) = false := by have := fR_lt b; unfold fS; simp; omega
theorem fInf_R (b : Nat) : fInf (fR b) = fInf b := by unfold fInf; rw [fR_R]
theorem xor63 (b : Nat) (hb : b < 18446744073709551616) : b ^^^ 9223372036854775808 < 18446744073709551616 ∧ fR (b ^^^ 9223372036854775808) = fR b ∧ fS (b ^^^ 9223372036854775808) = !fS b := by
  have h1 : (b ^^^ 9223372036854775808) % 9223372036854775808 = b % 9223372036854775808 := by
    have := Nat.xor_mod_two_pow (a := b) (b := 9223372036854775808) (n := 63)
    rw [show (2 : Nat) ^ 63 = 9223372036854775808 from rfl, Nat.mod_self, Nat.xor_zero] at this; exact this
  have h2 : (b ^^^ 9223372036854775808) / 9223372036854775808 = (b / 9223372036854775808) ^^^ 1 := by
    have := Nat.xor_div_two_pow (a := b) (b := 9223372036854775808) (n := 63)
    rw [show (2 : Nat) ^ 63 = 9223372036854775808 from rfl] at this; exact this
  refine ⟨Nat.xor_lt_two_pow (n := 64) hb (by decide), h1, ?_⟩
  unfold fS
  rcases Nat.lt_or_ge b 9223372036854775808 with h | h
  · have e : b / 9223372036854775808 = 0 := by omega
    rw [e] at h2
    have h3 : (0 : Nat) ^^^ 1 = 1 := rfl
    rw [h3] at h2
    have : 9223372036854775808 ≤ b ^^^ 9223372036854775808 := by omega
    simp [this]; omega
  · have e : b / 9223372036854775808 = 1 := by omega
    rw [e] at h2
    have h3 : (1 : Nat) ^^^ 1 = 0 := rfl
    rw [h3] at h2
    have : ¬ 9223372036854775808 ≤ b ^^^ 9223372036854775808 := by omega
    simp [this]; omega
theorem c_isinf (b : Nat) (s : Int) (hb : b < 18446744073709551616) : Fn Tryz.prog 172 [.float .f64 b, .int .i64 s] [] (Ret fun v L => v = .bool (infAt b s) ∧ L = []) := by
  have hx := xor63 b hb
  have hR := fR_lt b
  unfold infAt
  refine Fn.intro Tryz.call172 Tryz.func172 rfl Tryz.ntmps172 rfl ?_; intro g w Q hQ H
  refine sq ?_; intro K1 hK1; refine wp_region_lit ?_; refine xas rfl ?_; refine wpList_nil ?_; refine tn ?_; refine hK1 _ _ ?_; clear hK1 K1
  refine sq ?_; intro K2 hK2; refine sq ?_; intro K3 hK3; refine wp_region_lit ?_; refine xmv rfl ?_; refine xeq rfl rfl ?_; refine wpList_nil ?_
  refine tn ?_; refine hK3 _ _ ?_; clear hK3 K3
  refine if_ rfl (fun h => ?_) (fun h => ?_)
  · have h : s = 0 := by simpa using h
    refine wp_region_lit ?_; refine xmv rfl ?_
    refine xc [] H ((c_abs b hb)) rfl rfl rfl rfl rfl ?_; rintro _ _ w ⟨rfl, rfl⟩ H; replace H := H.ap rfl
    refine xas rfl ?_; refine wpList_nil ?_; refine tn ?_; refine hK2 _ _ ?_; clear hK2 K2; refine sq ?_; intro K4 hK4; refine wp_region_lit ?_; refine xmv rfl ?_
    refine xfgm rfl rfl (by omega) ?_; refine xas rfl ?_; refine wpList_nil ?_; refine tn ?_; refine hK4 _ _ ?_; clear hK4 K4; refine wp_ret ?_
    refine hQ _ _ _ ?_; refine r1 rfl rfl H ?_
    rw [if_pos h, fS_R, fInf_R]; exact ⟨rfl, rfl⟩
  · have h : ¬ s = 0 := by simpa using h
    refine sq ?_; intro K4 hK4; refine wp_region_lit ?_; refine xmv rfl ?_; refine xlt rfl rfl ?_; refine wpList_nil ?_
    refine tn ?_; refine hK4 _ _ ?_; clear hK4 K4
    refine if_ rfl (fun h2 => ?_) (fun h2 => ?_)
    · have h2 : s < 0 := by simpa using h2
      have hx1 := hx.1
      refine wp_region_lit ?_; refine xmv rfl ?_; refine xfng rfl ?_; refine xas rfl ?_; refine wpList_nil ?_; refine tn ?_; refine hK2 _ _ ?_; clear hK2 K2
      refine sq ?_; intro K5 hK5; refine wp_region_lit ?_; refine xmv rfl ?_; refine xfgm rfl rfl (by omega) ?_; refine xas rfl ?_; refine wpList_nil ?_
      refine tn ?_; refine hK5 _ _ ?_; clear hK5 K5; refine wp_ret ?_
      refine hQ _ _ _ ?_; refine r1 rfl rfl H ?_
      rw [if_neg h, if_pos h2, hx.2.2]; unfold fInf; rw [hx.2.1]; exact ⟨by simp, rfl⟩
    · have h2 : ¬ s < 0 := by simpa using h2
      refine wp_skip ?_; refine tn ?_; refine hK2 _ _ ?_; clear hK2 K2; refine sq ?_; intro K5 hK5; refine wp_region_lit ?_; refine xmv rfl ?_
      refine xfgm rfl rfl (by omega) ?_; refine xas rfl ?_; refine wpList_nil ?_; refine tn ?_; refine hK5 _ _ ?_; clear hK5 K5; refine wp_ret ?_
      refine hQ _ _ _ ?_; refine r1 rfl rfl H ?_
      rw [if_neg h, if_neg h2]; exact ⟨rfl, rfl⟩
def fClass (b : Nat) : Nat := if fNaN b = true then 0 else if (fS b && fInf b) = true then 1 else if (!fS b && fInf b) = true then 6 else if fNeg b = true then 2 else if fPos b = true then 5 else if fS b = true then 3 else 4
theorem c_class (b : Nat) (hb : b < 18446744073709551616) : Fn Tryz.prog 192 [.int .u64 b] [] (Ret fun v L => v = .int .i64 (fClass b) ∧ L = []) := by
  unfold fClass
  refine Fn.intro Tryz.call192 Tryz.func192 rfl Tryz.ntmps192 rfl ?_; intro g w Q hQ H
  refine sq ?_; intro K1 hK1; refine wp_region_lit ?_; refine xas rfl ?_; refine wpList_nil ?_; refine tn ?_; refine hK1 _ _ ?_; clear hK1 K1
  refine sq ?_; intro K2 hK2; refine wp_region_lit ?_; refine xmv rfl ?_
  refine xffb (f := 170) Tryz.func170 (by decide) rfl (by kernel_rfl) (by kernel_rfl) rfl rfl ?_; refine xas rfl ?_; refine wpList_nil ?_
  refine tn ?_; refine hK2 _ _ ?_; clear hK2 K2; refine sq ?_; intro K3 hK3; refine wp_block ?_; refine sq ?_; intro K4 hK4; refine wp_region_lit ?_
  refine xmv rfl ?_
  refine xc [] H ((c_isnan b hb)) rfl rfl rfl rfl rfl ?_; rintro _ _ w ⟨rfl, rfl⟩ H; replace H := H.ap rfl
  refine xas rfl ?_; refine wpList_nil ?_; refine tn ?_; refine hK4 _ _ ?_; clear hK4 K4
  refine if_ rfl (fun h1 => ?_) (fun h1 => ?_)
  · refine sq ?_; intro K5 hK5; refine wp_region_lit ?_; refine xas rfl ?_; refine wpList_nil ?_; refine tn ?_; refine hK5 _ _ ?_; clear hK5 K5; refine wp_ret ?_
    refine br ?_; refine tr ?_; clear hK3 K3
    refine hQ _ _ _ ?_; refine r1 rfl rfl H ?_
    rw [if_pos h1]; exact ⟨rfl, rfl⟩
  · refine sq ?_; intro K5 hK5; refine wp_region_lit ?_; refine xmv rfl ?_
    refine xc [] H ((c_isinf b (-1) hb)) rfl rfl rfl rfl rfl ?_; rintro _ _ w ⟨rfl, rfl⟩ H; replace H := H.ap rfl
    refine xas rfl ?_; refine wpList_nil ?_; refine tn ?_; refine hK5 _ _ ?_; clear hK5 K5
    refine if_ rfl (fun h2 => ?_) (fun h2 => ?_)
    · have h2 : (fS b && fInf b) = true := h2
      refine sq ?_; intro K6 hK6; refine wp_region_lit ?_; refine xas rfl ?_; refine wpList_nil ?_; refine tn ?_; refine hK6 _ _ ?_; clear hK6 K6; refine wp_ret ?_
      refine br ?_; refine tr ?_; clear hK3 K3
      refine hQ _ _ _ ?_; refine r1 rfl rfl H ?_
      rw [if_neg (by rw [h1]; decide), if_pos h2]; exact ⟨rfl, rfl⟩
    · have h2 : (fS b && fInf b) = false := h2
      refine sq ?_; intro K6 hK6; refine wp_region_lit ?_; refine xmv rfl ?_
      refine xc [] H ((c_isinf b 1 hb)) rfl rfl rfl rfl rfl ?_; rintro _ _ w ⟨rfl, rfl⟩ H; replace H := H.ap rfl
      refine xas rfl ?_; refine wpList_nil ?_; refine tn ?_; refine hK6 _ _ ?_; clear hK6 K6
      refine if_ rfl (fun h3 => ?_) (fun h3 => ?_)
      · have h3 : (!fS b && fInf b) = true := h3
        refine sq ?_; intro K7 hK7; refine wp_region_lit ?_; refine xas rfl ?_; refine wpList_nil ?_; refine tn ?_; refine hK7 _ _ ?_; clear hK7 K7; refine wp_ret ?_
        refine br ?_; refine tr ?_; clear hK3 K3
        refine hQ _ _ _ ?_; refine r1 rfl rfl H ?_
        rw [if_neg (by rw [h1]; decide), if_neg (by rw [h2]; decide), if_pos h3]; exact ⟨rfl, rfl⟩
      · have h3 : (!fS b && fInf b) = false := h3
        refine sq ?_; intro K7 hK7; refine wp_region_lit ?_; refine xmv rfl ?_; refine xflz rfl rfl (by omega) ?_; refine xas rfl ?_; refine wpList_nil ?_
        refine tn ?_; refine hK7 _ _ ?_; clear hK7 K7
        refine if_ rfl (fun h4 => ?_) (fun h4 => ?_)
        · refine sq ?_; intro K8 hK8; refine wp_region_lit ?_; refine xas rfl ?_; refine wpList_nil ?_; refine tn ?_; refine hK8 _ _ ?_; clear hK8 K8; refine wp_ret ?_
          refine br ?_; refine tr ?_; clear hK3 K3
          refine hQ _ _ _ ?_; refine r1 rfl rfl H ?_
          rw [if_neg (by rw [h1]; decide), if_neg (by rw [h2]; decide), if_neg (by rw [h3]; decide), if_pos h4]; exact ⟨rfl, rfl⟩
        · refine sq ?_; intro K8 hK8; refine wp_region_lit ?_; refine xmv rfl ?_; refine xfgz rfl rfl (by omega) ?_; refine xas rfl ?_; refine wpList_nil ?_
          refine tn ?_; refine hK8 _ _ ?_; clear hK8 K8
          refine if_ rfl (fun h5 => ?_) (fun h5 => ?_)
          · refine sq ?_; intro K9 hK9; refine wp_region_lit ?_; refine xas rfl ?_; refine wpList_nil ?_; refine tn ?_; refine hK9 _ _ ?_; clear hK9 K9; refine wp_ret ?_
            refine br ?_; refine tr ?_; clear hK3 K3
            refine hQ _ _ _ ?_; refine r1 rfl rfl H ?_
            rw [if_neg (by rw [h1]; decide), if_neg (by rw [h2]; decide), if_neg (by rw [h3]; decide), if_neg (by rw [h4]; decide), if_pos h5]; exact ⟨rfl, rfl⟩
          · refine sq ?_; intro K9 hK9; refine wp_region_lit ?_; refine xmv rfl ?_
            refine xc [] H ((c_signbit b hb)) rfl rfl rfl rfl rfl ?_; rintro _ _ w ⟨rfl, rfl⟩ H; replace H := H.ap rfl
            refine xas rfl ?_; refine wpList_nil ?_; refine tn ?_; refine hK9 _ _ ?_; clear hK9 K9
            refine if_ rfl (fun h6 => ?_) (fun h6 => ?_)
            · refine sq ?_; intro K10 hK10; refine wp_region_lit ?_; refine xas rfl ?_; refine wpList_nil ?_; refine tn ?_; refine hK10 _ _ ?_; clear hK10 K10
              refine wp_ret ?_; refine br ?_; refine tr ?_; clear hK3 K3
              refine hQ _ _ _ ?_; refine r1 rfl rfl H ?_
              rw [if_neg (by rw [h1]; decide), if_neg (by rw [h2]; decide), if_neg (by rw [h3]; decide), if_neg (by rw [h4]; decide), if_neg (by rw [h5]; decide), if_pos h6]; exact ⟨rfl, rfl⟩
            · refine wp_skip ?_; refine bn ?_; refine tn ?_; refine hK3 _ _ ?_; clear hK3 K3; refine sq ?_; intro K10 hK10; refine wp_region_lit ?_; refine xas rfl ?_
              refine wpList_nil ?_; refine tn ?_; refine hK10 _ _ ?_; clear hK10 K10; refine wp_ret ?_
              refine hQ _ _ _ ?_; refine r1 rfl rfl H ?_
              rw [if_neg (by rw [h1]; decide), if_neg (by rw [h2]; decide), if_neg (by rw [h3]; decide), if_neg (by rw [h4]; decide), if_neg (by rw [h5]; decide), if_neg (by rw [h6]; decide)]; exact ⟨rfl, rfl⟩
def fCanon (b : Nat) : Nat := if fClass b = 0 then 9221120237041090560 else if fClass b = 3 then 0 else b
theorem c_canon (b : Nat) (hb : b < 18446744073709551616) : Fn Tryz.prog 173 [.int .u64 b] [] (Ret fun v L => v = .int .u64 (fCanon b : Nat) ∧ L = []) := by
  unfold fCanon
  refine Fn.intro Tryz.call173 Tryz.func173 rfl Tryz.ntmps173 rfl ?_; intro g w Q hQ H
  refine sq ?_; intro K1 hK1; refine wp_region_lit ?_; refine xas rfl ?_; refine wpList_nil ?_; refine tn ?_; refine hK1 _ _ ?_; clear hK1 K1
  refine sq ?_; intro K2 hK2; refine sq ?_; intro K3 hK3; refine wp_region_lit ?_; refine xmv rfl ?_
  refine xc [] H ((c_class b hb)) rfl rfl rfl rfl rfl ?_; rintro _ _ w ⟨rfl, rfl⟩ H; replace H := H.ap rfl
  refine wpList_nil ?_; refine tn ?_; refine hK3 _ _ ?_; clear hK3 K3; refine wp_block ?_; refine sq ?_; intro K4 hK4; refine wp_region_lit ?_
  refine xeq rfl rfl ?_; refine xas rfl ?_; refine wpList_nil ?_; refine tn ?_; refine hK4 _ _ ?_; clear hK4 K4
  refine if_ rfl (fun h1 => ?_) (fun h1 => ?_)
  · refine sq ?_; intro K5 hK5; refine wp_region_lit ?_; refine xas rfl ?_; refine wpList_nil ?_; refine tn ?_; refine hK5 _ _ ?_; clear hK5 K5; refine wp_ret ?_
    refine br ?_; refine tr ?_; clear hK2 K2
    refine hQ _ _ _ ?_; refine r1 rfl rfl H ?_
    rw [if_pos (by simp at h1; omega)]; exact ⟨rfl, rfl⟩
  · refine sq ?_; intro K5 hK5; refine wp_region_lit ?_; refine xeq rfl rfl ?_; refine xas rfl ?_; refine wpList_nil ?_
    refine tn ?_; refine hK5 _ _ ?_; clear hK5 K5
    refine if_ rfl (fun h2 => ?_) (fun h2 => ?_)
    · refine sq ?_; intro K6 hK6; refine wp_region_lit ?_; refine xas rfl ?_; refine wpList_nil ?_; refine tn ?_; refine hK6 _ _ ?_; clear hK6 K6; refine wp_ret ?_
      refine br ?_; refine tr ?_; clear hK2 K2
      refine hQ _ _ _ ?_; refine r1 rfl rfl H ?_
      rw [if_neg (by simp at h1; omega), if_pos (by simp at h2; omega)]; exact ⟨rfl, rfl⟩
    · refine wp_skip ?_; refine bn ?_; refine tn ?_; refine hK2 _ _ ?_; clear hK2 K2; refine sq ?_; intro K6 hK6; refine wp_region_lit ?_; refine xmv rfl ?_
      refine xas rfl ?_; refine wpList_nil ?_; refine tn ?_; refine hK6 _ _ ?_; clear hK6 K6; refine wp_ret ?_
      refine hQ _ _ _ ?_; refine r1 rfl rfl H ?_
      rw [if_neg (by simp at h1; omega), if_neg (by simp at h2; omega)]; exact ⟨rfl, rfl⟩
def fPrice (b : Nat) : Bool := !((fNaN b || fInf b) || fNeg b)
theorem c_pcheck (b : Nat) (hb : b < 18446744073709551616) : Fn Tryz.prog 143 [.int .u64 b] []
    (Ret fun v L => v = (if fPrice b = true then .tuple #[.int .u64 (fCanon b : Nat), .int .i64 0] else .tuple #[.int .u64 0, .int .i64 13]) ∧ L = []) := by
  unfold fPrice
  refine Fn.intro Tryz.call143 Tryz.func143 rfl Tryz.ntmps143 rfl ?_; intro g w Q hQ H
  refine sq ?_; intro K1 hK1; refine wp_region_lit ?_; refine xas rfl ?_; refine xas rfl ?_; refine wpList_nil ?_; refine tn ?_; refine hK1 _ _ ?_; clear hK1 K1
  refine sq ?_; intro K2 hK2; refine wp_region_lit ?_; refine xmv rfl ?_
  refine xffb (f := 170) Tryz.func170 (by decide) rfl (by kernel_rfl) (by kernel_rfl) rfl rfl ?_; refine xas rfl ?_; refine wpList_nil ?_
  refine tn ?_; refine hK2 _ _ ?_; clear hK2 K2; refine sq ?_; intro K3 hK3; refine sq ?_; intro K4 hK4; refine wp_region_lit ?_; refine xmv rfl ?_
  refine xc [] H ((c_isnan b hb)) rfl rfl rfl rfl rfl ?_; rintro _ _ w ⟨rfl, rfl⟩ H; replace H := H.ap rfl
  refine xmv rfl ?_; refine jor (b := ?b1) 3 9 [10, 11] 12 rfl rfl H (fun hhc1 hc1 => ?a1) (fun hhc1 hc1 => ?o1) ?_
  case a1 =>
    refine xgy rfl rfl rfl ?_; refine xmv rfl ?_; refine xgy rfl rfl rfl ?_
    refine xc [] H ((c_isinf b 0 hb)) rfl rfl rfl rfl rfl ?_; rintro _ _ w ⟨rfl, rfl⟩ H; replace H := H.ap rfl
    refine xpkf rfl rfl ?_; exact hc1 _ _ _ H
  case o1 =>
    refine xgn rfl rfl rfl ?_; refine xgn rfl rfl rfl ?_; refine xpkt rfl rfl ?_; exact hc1 _ _ _ H
  intro u10 u11 w H; refine xmv rfl ?_; refine jor (b := ?b2) 3 13 [14, 15] 16 rfl rfl H (fun hhc2 hc2 => ?a2) (fun hhc2 hc2 => ?o2) ?_
  case a2 =>
    refine xgy rfl rfl rfl ?_; refine xmv rfl ?_; refine xgy rfl rfl rfl ?_; refine xflz rfl rfl (by omega) ?_; refine xpkf rfl rfl ?_; exact hc2 _ _ _ H
  case o2 =>
    refine xgn rfl rfl rfl ?_; refine xgn rfl rfl rfl ?_; refine xpkt rfl rfl ?_; exact hc2 _ _ _ H
  intro u14 u15 w H; refine wpList_nil ?_; refine tn ?_; refine hK4 _ _ ?_; clear hK4 K4
  refine if_ rfl (fun h => ?_) (fun h => ?_)
  · refine sq ?_; intro K5 hK5; refine wp_region_lit ?_; refine xas rfl ?_; refine xas rfl ?_; refine wpList_nil ?_; refine tn ?_; refine hK5 _ _ ?_; clear hK5 K5
    refine wp_ret ?_; refine tr ?_; clear hK3 K3
    refine hQ _ _ _ ?_; refine r2 rfl rfl rfl H ?_
    rw [if_neg]
    exact ⟨rfl, rfl⟩
    have h' : ((fNaN b || fInf b) || fNeg b) = true := h
    rw [h']; decide
  · refine wp_skip ?_; refine tn ?_; refine hK3 _ _ ?_; clear hK3 K3; refine sq ?_; intro K5 hK5; refine wp_region_lit ?_; refine xmv rfl ?_
    refine xc [] H ((c_canon b hb)) rfl rfl rfl rfl rfl ?_; rintro _ _ w ⟨rfl, rfl⟩ H; replace H := H.ap rfl
    refine xas rfl ?_; refine xas rfl ?_; refine wpList_nil ?_; refine tn ?_; refine hK5 _ _ ?_; clear hK5 K5; refine wp_ret ?_
    refine hQ _ _ _ ?_; refine r2 rfl rfl rfl H ?_
    rw [if_pos]
    exact ⟨rfl, rfl⟩
    have h' : ((fNaN b || fInf b) || fNeg b) = false := h
    rw [h']; decide
end Go.Proofs.YtegllbmkkfnajaaGreatDoor
end
section
namespace Go.Proofs.YtegllbmkkfnajaaGreatDoor
open Go Go.Proofs
attribute [local irreducible] Go.wpList Go.Code.wp St Fn mk
set_option maxRecDepth 20000
theorem mul_hi (p00 p10 p01 p11 : Nat) : p11 + (p10 + p00 >>> 32) >>> 32 + ((p10 + p00 >>> 32) % 4294967296 + p01) >>> 32 = (p11 * 18446744073709551616 + (p10 + p01) * 4294967296 + p00) / 18446744073709551616 := by
  simp only [Nat.shiftRight_eq_div_pow]
  omega
theorem c_mul64 (x y : Nat) (hx : x < 18446744073709551616) (hy : y < 18446744073709551616) : Fn Tryz.prog 167 [.int .u64 x, .int .u64 y] []
    (Ret fun v L => v = .tuple #[.int .u64 (x * y / 18446744073709551616 : Nat), .int .u64 (x * y % 18446744073709551616 : Nat)] ∧ L = []) := by
  have a0 : x % 2 ^ 32 < 4294967296 := Nat.mod_lt _ (by decide)
  have b0 : y % 2 ^ 32 < 4294967296 := Nat.mod_lt _ (by decide)
  have a1 : x >>> 32 < 4294967296 := by rw [Nat.shiftRight_eq_div_pow]; omega
  have b1 : y >>> 32 < 4294967296 := by rw [Nat.shiftRight_eq_div_pow]; omega
  have ml : ∀ {a b : Nat}, a < 4294967296 → b < 4294967296 → a * b ≤ 18446744065119617025 := fun ha hb => by
    have := Nat.mul_le_mul (Nat.le_sub_one_of_lt ha) (Nat.le_sub_one_of_lt hb); exact this
  have m00 := ml a0 b0; have m10 := ml a1 b0; have m01 := ml a0 b1; have m11 := ml a1 b1
  have n00 : x % 2 ^ 32 * (y % 2 ^ 32) < 18446744073709551616 := Nat.lt_of_le_of_lt m00 (by decide)
  have n10 : x >>> 32 * (y % 2 ^ 32) < 18446744073709551616 := Nat.lt_of_le_of_lt m10 (by decide)
  have n01 : x % 2 ^ 32 * (y >>> 32) < 18446744073709551616 := Nat.lt_of_le_of_lt m01 (by decide)
  have n11 : x >>> 32 * (y >>> 32) < 18446744073709551616 := Nat.lt_of_le_of_lt m11 (by decide)
  have hw : x * y / 18446744073709551616 < 18446744073709551616 := Nat.div_lt_of_lt_mul (Nat.mul_lt_mul_of_lt_of_lt hx hy)
  have hm : x * y = (x >>> 32 * (y >>> 32)) * 18446744073709551616 + (x >>> 32 * (y % 2 ^ 32) + x % 2 ^ 32 * (y >>> 32)) * 4294967296 + x % 2 ^ 32 * (y % 2 ^ 32) := by
    have ex : x = x >>> 32 * 4294967296 + x % 2 ^ 32 := by rw [Nat.shiftRight_eq_div_pow]; omega
    have ey : y = y >>> 32 * 4294967296 + y % 2 ^ 32 := by rw [Nat.shiftRight_eq_div_pow]; omega
    generalize x >>> 32 = p at *
    generalize x % 2 ^ 32 = q at *
    generalize y >>> 32 = r at *
    generalize y % 2 ^ 32 = s at *
    subst ex ey
    have : (p * 4294967296 + q) * (r * 4294967296 + s) = p * r * 18446744073709551616 + (p * s + q * r) * 4294967296 + q * s := by
      simp only [Nat.add_mul, Nat.mul_add]
      have e1 : p * 4294967296 * (r * 4294967296) = p * r * 18446744073709551616 := by rw [Nat.mul_mul_mul_comm]
      have e2 : p * 4294967296 * s = p * s * 4294967296 := Nat.mul_right_comm _ _ _
      have e3 : q * (r * 4294967296) = q * r * 4294967296 := (Nat.mul_assoc _ _ _).symm
      omega
    exact this
  have hh := mul_hi (x % 2 ^ 32 * (y % 2 ^ 32)) (x >>> 32 * (y % 2 ^ 32)) (x % 2 ^ 32 * (y >>> 32)) (x >>> 32 * (y >>> 32))
  rw [← hm] at hh
  refine Fn.intro Tryz.call167 Tryz.func167 rfl Tryz.ntmps167 rfl ?_; intro g w Q hQ H
  refine sq ?_; intro K1 hK1; refine wp_region_lit ?_; refine xas rfl ?_; refine xas rfl ?_; refine wpList_nil ?_; refine tn ?_; refine hK1 _ _ ?_; clear hK1 K1
  refine sq ?_; intro K2 hK2; refine wp_region_lit ?_; refine xmv rfl ?_; refine xanm_u64 32 rfl rfl (by omega) (by decide) ?_; refine xas rfl ?_
  refine wpList_nil ?_; refine tn ?_; refine hK2 _ _ ?_; clear hK2 K2; refine sq ?_; intro K3 hK3; refine wp_region_lit ?_; refine xmv rfl ?_
  refine xsr_u64 (s := 32) rfl rfl (by omega) ?_
  refine xas rfl ?_; refine wpList_nil ?_; refine tn ?_; refine hK3 _ _ ?_; clear hK3 K3; refine sq ?_; intro K4 hK4; refine wp_region_lit ?_; refine xmv rfl ?_
  refine xanm_u64 32 rfl rfl (by omega) (by decide) ?_; refine xas rfl ?_; refine wpList_nil ?_; refine tn ?_; refine hK4 _ _ ?_; clear hK4 K4
  refine sq ?_; intro K5 hK5; refine wp_region_lit ?_; refine xmv rfl ?_
  refine xsr_u64 (s := 32) rfl rfl (by omega) ?_
  refine xas rfl ?_; refine wpList_nil ?_; refine tn ?_; refine hK5 _ _ ?_; clear hK5 K5; refine sq ?_; intro K6 hK6; refine wp_region_lit ?_; refine xmv rfl ?_
  refine xmv rfl ?_
  refine xmln_u64 rfl rfl (by assumption) ?_
  refine xas rfl ?_; refine wpList_nil ?_; refine tn ?_; refine hK6 _ _ ?_; clear hK6 K6; refine sq ?_; intro K7 hK7; refine wp_region_lit ?_; refine xmv rfl ?_
  refine xmv rfl ?_
  refine xmln_u64 rfl rfl (by assumption) ?_
  refine xmv rfl ?_
  refine xsr_u64 (s := 32) rfl rfl (by omega) ?_
  refine xadn_u64 rfl rfl (by omega) ?_
  refine xas rfl ?_; refine wpList_nil ?_; refine tn ?_; refine hK7 _ _ ?_; clear hK7 K7; refine sq ?_; intro K8 hK8; refine wp_region_lit ?_; refine xmv rfl ?_
  refine xanm_u64 32 rfl rfl (by omega) (by decide) ?_; refine xas rfl ?_; refine wpList_nil ?_; refine tn ?_; refine hK8 _ _ ?_; clear hK8 K8
  refine sq ?_; intro K9 hK9; refine wp_region_lit ?_; refine xmv rfl ?_
  refine xsr_u64 (s := 32) rfl rfl (by omega) ?_
  refine xas rfl ?_; refine wpList_nil ?_; refine tn ?_; refine hK9 _ _ ?_; clear hK9 K9; refine sq ?_; intro K10 hK10; refine wp_region_lit ?_; refine xmv rfl ?_
  refine xmv rfl ?_; refine xmv rfl ?_
  refine xmln_u64 rfl rfl (by assumption) ?_
  refine xadn_u64 rfl rfl (by omega) ?_
  refine xas rfl ?_; refine wpList_nil ?_; refine tn ?_; refine hK10 _ _ ?_; clear hK10 K10; refine sq ?_; intro K11 hK11; refine wp_region_lit ?_
  refine xmv rfl ?_; refine xmv rfl ?_
  refine xmln_u64 rfl rfl (by assumption) ?_
  refine xmv rfl ?_
  refine xadn_u64 rfl rfl (by omega) ?_
  refine xmv rfl ?_
  refine xsr_u64 (s := 32) rfl rfl (by omega) ?_
  refine xadn_u64 rfl rfl (by omega) ?_
  refine xas rfl ?_; refine wpList_nil ?_; refine tn ?_; refine hK11 _ _ ?_; clear hK11 K11; refine sq ?_; intro K12 hK12; refine wp_region_lit ?_
  refine xmv rfl ?_; refine xmv rfl ?_
  refine xmlm_u64 rfl rfl ?_
  refine xas rfl ?_; refine wpList_nil ?_; refine tn ?_; refine hK12 _ _ ?_; clear hK12 K12; refine wp_ret ?_
  refine hQ _ _ _ ?_; refine r2 rfl rfl rfl H ?_
  exact ⟨by rw [← hh], rfl⟩
end Go.Proofs.YtegllbmkkfnajaaGreatDoor
end
section
namespace Go.Proofs.YtegllbmkkfnajaaGreatDoor
open Go Go.Proofs
attribute [local irreducible] Go.wpList Go.Code.wp St Fn mk
set_option maxRecDepth 20000
def over (a b : Nat) : Bool := decide ((a + b) % 18446744073709551616 < a)
def padd (a b : Nat) : Nat := if over a b = true then 18446744073709551615 else a + b
theorem c_over (a b : Nat) (ha : a < 18446744073709551616) (hb : b < 18446744073709551616) : Fn Tryz.prog 138 [.int .u64 a, .int .u64 b] [] (Ret fun v L => v = .bool (over a b) ∧ L = []) := by
  refine Fn.intro Tryz.call138 Tryz.func138 rfl Tryz.ntmps138 rfl ?_; intro g w Q hQ H
  refine sq ?_; intro K1 hK1; refine wp_region_lit ?_; refine xas rfl ?_; refine wpList_nil ?_; refine tn ?_; refine hK1 _ _ ?_; clear hK1 K1
  refine sq ?_; intro K2 hK2; refine wp_region_lit ?_; refine xmv rfl ?_; refine xmv rfl ?_
  refine xadm_u64 rfl rfl ?_
  refine xmv rfl ?_; refine xlt rfl rfl ?_; refine xas rfl ?_; refine wpList_nil ?_; refine tn ?_; refine hK2 _ _ ?_; clear hK2 K2; refine wp_ret ?_
  refine hQ _ _ _ ?_; refine r1 rfl rfl H ?_
  exact ⟨by unfold over; congr 1; simp only [decide_eq_decide]; omega, rfl⟩
theorem over_iff {a b : Nat} (ha : a < 18446744073709551616) (hb : b < 18446744073709551616) : over a b = true ↔ 18446744073709551616 ≤ a + b := by
  unfold over; simp only [decide_eq_true_eq]; omega
theorem padd_lt {a b : Nat} (ha : a < 18446744073709551616) (hb : b < 18446744073709551616) : padd a b < 18446744073709551616 := by
  unfold padd
  split
  · decide
  · rename_i h; rw [over_iff ha hb] at h; omega
theorem c_padd (a b : Nat) (ha : a < 18446744073709551616) (hb : b < 18446744073709551616) : Fn Tryz.prog 116 [.int .u64 a, .int .u64 b] [] (Ret fun v L => v = .int .u64 (padd a b : Nat) ∧ L = []) := by
  unfold padd
  have ho := over_iff ha hb
  refine Fn.intro Tryz.call116 Tryz.func116 rfl Tryz.ntmps116 rfl ?_; intro g w Q hQ H
  refine sq ?_; intro K1 hK1; refine wp_region_lit ?_; refine xas rfl ?_; refine wpList_nil ?_; refine tn ?_; refine hK1 _ _ ?_; clear hK1 K1
  refine sq ?_; intro K2 hK2; refine sq ?_; intro K3 hK3; refine wp_region_lit ?_; refine xmv rfl ?_; refine xmv rfl ?_
  refine xc [] H ((c_over a b ha hb)) rfl rfl rfl rfl rfl ?_; rintro _ _ w ⟨rfl, rfl⟩ H; replace H := H.ap rfl
  refine wpList_nil ?_; refine tn ?_; refine hK3 _ _ ?_; clear hK3 K3
  refine if_ rfl (fun h => ?_) (fun h => ?_)
  · refine sq ?_; intro K4 hK4; refine wp_region_lit ?_; refine xas rfl ?_; refine wpList_nil ?_; refine tn ?_; refine hK4 _ _ ?_; clear hK4 K4; refine wp_ret ?_
    refine tr ?_; clear hK2 K2
    refine hQ _ _ _ ?_; refine r1 rfl rfl H ?_
    rw [if_pos h]; exact ⟨rfl, rfl⟩
  · have h' : ¬ over a b = true := by rw [h]; decide
    rw [ho] at h'
    refine wp_skip ?_; refine tn ?_; refine hK2 _ _ ?_; clear hK2 K2; refine sq ?_; intro K4 hK4; refine wp_region_lit ?_; refine xmv rfl ?_; refine xmv rfl ?_
    refine xadn_u64 rfl rfl (by omega) ?_
    refine xas rfl ?_; refine wpList_nil ?_; refine tn ?_; refine hK4 _ _ ?_; clear hK4 K4; refine wp_ret ?_
    refine hQ _ _ _ ?_; refine r1 rfl rfl H ?_
    rw [if_neg (by rw [h]; decide)]; exact ⟨rfl, rfl⟩
def lenTab : List UInt8 := [0, 1, 2, 2, 3, 3, 3, 3, 4, 4, 4, 4, 4, 4, 4, 4, 5, 5, 5, 5, 5, 5, 5, 5, 5, 5, 5, 5, 5, 5, 5, 5, 6, 6, 6, 6, 6, 6, 6, 6, 6, 6, 6, 6, 6, 6, 6, 6, 6, 6, 6, 6, 6, 6, 6, 6, 6, 6, 6, 6, 6, 6, 6, 6, 7, 7, 7, 7, 7, 7, 7, 7, 7, 7, 7, 7, 7, 7, 7, 7, 7, 7, 7, 7, 7, 7, 7, 7, 7, 7, 7, 7, 7, 7, 7, 7, 7, 7, 7, 7, 7, 7, 7, 7, 7, 7, 7, 7, 7, 7, 7, 7, 7, 7, 7, 7, 7, 7, 7, 7, 7, 7, 7, 7, 7, 7, 7, 7, 8, 8, 8, 8, 8, 8, 8, 8, 8, 8, 8, 8, 8, 8, 8, 8, 8, 8, 8, 8, 8, 8, 8, 8, 8, 8, 8, 8, 8, 8, 8, 8, 8, 8, 8, 8, 8, 8, 8, 8, 8, 8, 8, 8, 8, 8, 8, 8, 8, 8, 8, 8, 8, 8, 8, 8, 8, 8, 8, 8, 8, 8, 8, 8, 8, 8, 8, 8, 8, 8, 8, 8, 8, 8, 8, 8, 8, 8, 8, 8, 8, 8, 8, 8, 8, 8, 8, 8, 8, 8, 8, 8, 8, 8, 8, 8, 8, 8, 8, 8, 8, 8, 8, 8, 8, 8, 8, 8, 8, 8, 8, 8, 8, 8, 8, 8, 8, 8, 8, 8, 8, 8, 8, 8, 8, 8, 8, 8]
def len64a (x : Nat) : Nat × Nat := if 4294967296 ≤ x then (x >>> 32, 32) else (x, 0)
def len64b (p : Nat × Nat) : Nat × Nat := if 65536 ≤ p.1 then (p.1 >>> 16, p.2 + 16) else p
def len64c (p : Nat × Nat) : Nat × Nat := if 256 ≤ p.1 then (p.1 >>> 8, p.2 + 8) else p
def lt8 (j : Nat) : UInt8 := (lenTab[j]?).getD (0 : UInt8)
def len64 (x : Nat) : Nat := let p := len64c (len64b (len64a x)); p.2 + (lt8 p.1).toNat
theorem lenTab_le : ∀ j, (lt8 j).toNat ≤ 8 := by
  intro j
  rcases Nat.lt_or_ge j 256 with h | h
  · have : (List.range 256).all (fun j => decide ((lt8 j).toNat ≤ 8)) = true := by decide
    have := List.all_eq_true.1 this j (List.mem_range.2 h)
    simpa using this
  · have e : lenTab[j]? = none := List.getElem?_eq_none h
    unfold lt8; rw [e]; decide
theorem lenTab_at {j : Nat} (h : j < 256) : lenTab[j]? = some (lt8 j) := by
  have e : j < lenTab.length := h
  unfold lt8; rw [List.getElem?_eq_getElem e]; rfl
theorem c_len64 (x : Nat) (hx : x < 18446744073709551616) : Fn Tryz.prog 159 [.int .u64 x] [] (Ret fun v L => v = .int .i64 (len64 x : Nat) ∧ L = []) := by
  unfold len64
  obtain ⟨p, hp⟩ : ∃ p, len64a x = p := ⟨_, rfl⟩
  obtain ⟨q, hq⟩ : ∃ q, len64b p = q := ⟨_, rfl⟩
  obtain ⟨r, hr⟩ : ∃ r, len64c q = r := ⟨_, rfl⟩
  have hp1 : p.1 < 4294967296 ∧ p.2 ≤ 32 := by
    rw [← hp]; unfold len64a; split
    · simp only [Nat.shiftRight_eq_div_pow]; omega
    · omega
  have hq1 : q.1 < 65536 ∧ q.2 ≤ 48 := by
    rw [← hq]; unfold len64b; split
    · simp only [Nat.shiftRight_eq_div_pow]; omega
    · omega
  have hr1 : r.1 < 256 ∧ r.2 ≤ 56 := by
    rw [← hr]; unfold len64c; split
    · simp only [Nat.shiftRight_eq_div_pow]; omega
    · omega
  have hl := lenTab_le r.1
  simp only [hp, hq, hr]
  obtain ⟨p1, p2⟩ := p
  obtain ⟨q1, q2⟩ := q
  obtain ⟨s1, s2⟩ := r
  simp only at hp1 hq1 hr1 hl ⊢
  refine Fn.intro Tryz.call159 Tryz.func159 rfl Tryz.ntmps159 rfl ?_; intro g w Q hQ H
  refine sq ?_; intro K1 hK1; refine wp_region_lit ?_; refine xas rfl ?_; refine wpList_nil ?_; refine tn ?_; refine hK1 _ _ ?_; clear hK1 K1
  refine sq ?_; intro K2 hK2; refine sq ?_; intro K3 hK3; refine wp_region_lit ?_; refine xmv rfl ?_; refine xge rfl rfl ?_; refine wpList_nil ?_
  refine tn ?_; refine hK3 _ _ ?_; clear hK3 K3
  refine cutK (g := g) (α := Unit) (fun u => [(0, .int .u64 p1), (2, .int .i64 p2)]) (fun u => []) (fun u => True) (fun K4 hK4 => ?_) (fun u ρ w hI H => ?_)
  · skip
    refine if_ rfl (fun h => ?_) (fun h => ?_)
    · rw [len64a, if_pos (by simp at h; omega)] at hp; cases hp
      refine sq ?_; intro K5 hK5; refine wp_region_lit ?_; refine xmv rfl ?_
      refine xsr_u64 (s := 32) rfl rfl (by omega) ?_
      refine xas rfl ?_; refine wpList_nil ?_; refine tn ?_; refine hK5 _ _ ?_; clear hK5 K5; refine wp_region_lit ?_; refine xas rfl ?_; refine wpList_nil ?_
      refine tn ?_; refine hK4 _ _ (()) ⟨rfl, rfl, True.intro⟩ ?_ H
      trivial
    · rw [len64a, if_neg (by simp at h; omega)] at hp; cases hp
      refine wp_skip ?_
      refine tn ?_; refine hK4 _ _ (()) ⟨rfl, rfl, True.intro⟩ ?_ H
      trivial
  · refine hK2 _ _ ?_; clear hK2 K2; refine sq ?_; intro K5 hK5; refine sq ?_; intro K6 hK6; refine wp_region_lit ?_; refine xmv rfl ?_; refine xge rfl rfl ?_
    refine wpList_nil ?_; refine tn ?_; refine hK6 _ _ ?_; clear hK6 K6
    refine cutK (g := g) (α := Unit) (fun u => [(0, .int .u64 q1), (2, .int .i64 q2)]) (fun u => []) (fun u => True) (fun K7 hK7 => ?_) (fun u ρ w hI H => ?_)
    · skip
      refine if_ rfl (fun h => ?_) (fun h => ?_)
      · rw [len64b, if_pos (by simp at h; omega)] at hq; cases hq
        refine sq ?_; intro K8 hK8; refine wp_region_lit ?_; refine xmv rfl ?_
        refine xsr_u64 (s := 16) rfl rfl (by omega) ?_
        refine xas rfl ?_; refine wpList_nil ?_; refine tn ?_; refine hK8 _ _ ?_; clear hK8 K8; refine wp_region_lit ?_; refine xmv rfl ?_
        refine xadi rfl rfl (wi64 (by omega)) ?_
        refine xas rfl ?_; refine wpList_nil ?_
        refine tn ?_; refine hK7 _ _ (()) ⟨rfl, rfl, True.intro⟩ ?_ H
        trivial
      · rw [len64b, if_neg (by simp at h; omega)] at hq; cases hq
        refine wp_skip ?_
        refine tn ?_; refine hK7 _ _ (()) ⟨rfl, rfl, True.intro⟩ ?_ H
        trivial
    · refine hK5 _ _ ?_; clear hK5 K5; refine sq ?_; intro K8 hK8; refine sq ?_; intro K9 hK9; refine wp_region_lit ?_; refine xmv rfl ?_; refine xge rfl rfl ?_
      refine wpList_nil ?_; refine tn ?_; refine hK9 _ _ ?_; clear hK9 K9
      refine cutK (g := g) (α := Unit) (fun u => [(0, .int .u64 s1), (2, .int .i64 s2)]) (fun u => []) (fun u => True) (fun K10 hK10 => ?_) (fun u ρ w hI H => ?_)
      · skip
        refine if_ rfl (fun h => ?_) (fun h => ?_)
        · rw [len64c, if_pos (by simp at h; omega)] at hr; cases hr
          refine sq ?_; intro K11 hK11; refine wp_region_lit ?_; refine xmv rfl ?_
          refine xsr_u64 (s := 8) rfl rfl (by omega) ?_
          refine xas rfl ?_; refine wpList_nil ?_; refine tn ?_; refine hK11 _ _ ?_; clear hK11 K11; refine wp_region_lit ?_; refine xmv rfl ?_
          refine xadi rfl rfl (wi64 (by omega)) ?_
          refine xas rfl ?_; refine wpList_nil ?_
          refine tn ?_; refine hK10 _ _ (()) ⟨rfl, rfl, True.intro⟩ ?_ H
          trivial
        · rw [len64c, if_neg (by simp at h; omega)] at hr; cases hr
          refine wp_skip ?_
          refine tn ?_; refine hK10 _ _ (()) ⟨rfl, rfl, True.intro⟩ ?_ H
          trivial
      · refine hK8 _ _ ?_; clear hK8 K8; refine sq ?_; intro K11 hK11; refine wp_region_lit ?_; refine xmv rfl ?_; refine xmv rfl ?_
        refine xcvi rfl (wu8 (by omega)) ?_
        refine xix (s := str lenTab) (j := s1) rfl rfl rfl (lenTab_at hr1.1) ?_
        refine xcvi rfl (wi64 (by omega)) ?_
        refine xadi rfl rfl (wi64 (by omega)) ?_
        refine xas rfl ?_; refine wpList_nil ?_; refine tn ?_; refine hK11 _ _ ?_; clear hK11 K11; refine wp_ret ?_
        refine hQ _ _ _ ?_; refine r1 rfl rfl H ?_
        exact ⟨by congr 1 <;> omega, rfl⟩
end Go.Proofs.YtegllbmkkfnajaaGreatDoor
end
section
namespace Go.Proofs.YtegllbmkkfnajaaGreatDoor
open Go Go.Proofs
attribute [local irreducible] Go.wpList Go.Code.wp St Fn mk
set_option maxRecDepth 20000
def dbTab : List UInt8 := [0, 1, 56, 2, 57, 49, 28, 3, 61, 58, 42, 50, 38, 29, 17, 4, 62, 47, 59, 36, 45, 43, 51, 22, 53, 39, 33, 30, 24, 18, 12, 5, 63, 55, 48, 27, 60, 41, 37, 16, 46, 35, 44, 21, 52, 32, 23, 11, 54, 26, 40, 15, 34, 20, 31, 10, 25, 14, 19, 9, 13, 8, 7, 6]
def dbt (j : Nat) : UInt8 := (dbTab[j]?).getD (0 : UInt8)
theorem dbt_le : ∀ j, (dbt j).toNat ≤ 63 := by
  intro j
  rcases Nat.lt_or_ge j 64 with h | h
  · have : (List.range 64).all (fun j => decide ((dbt j).toNat ≤ 63)) = true := by decide
    have := List.all_eq_true.1 this j (List.mem_range.2 h)
    simpa using this
  · have e : dbTab[j]? = none := List.getElem?_eq_none h
    unfold dbt; rw [e]; decide
theorem dbt_at {j : Nat} (h : j < 64) : dbTab[j]? = some (dbt j) := by
  have e : j < dbTab.length := h
  unfold dbt; rw [List.getElem?_eq_getElem e]; rfl
def Tab (A : Asn) : Prop := Cells A 2 0 (bv dbTab)
theorem Tab.up {A B : Asn} (h : Tab A) (hs : Sees B A) : Tab B := h.sees hs
def tzw (x : Nat) : Nat := ((x &&& (18446744073709551616 - x)) * 285870213051353865 % 18446744073709551616) >>> 58
def tz (x : Nat) : Nat := if x = 0 then 64 else (dbt (tzw x)).toNat
theorem tz_le (x : Nat) : tz x ≤ 64 := by
  unfold tz
  split
  · exact Nat.le_refl _
  · have := dbt_le (tzw x); omega
theorem c_tz (A : Asn) (hT : Tab A) (x : Nat) (hx : x < 18446744073709551616) : Fn Tryz.prog 193 [.int .u64 x] [A] (Ret fun v L => v = .int .i64 (tz x : Nat) ∧ L = [A]) := by
  unfold tz
  have hj : tzw x < 64 := by unfold tzw; rw [Nat.shiftRight_eq_div_pow]; omega
  have hT' : A.cell ⟨2, 0 + tzw x, none⟩ (.int .u8 (dbt (tzw x)).toNat) := hT _ _ (bv_get (dbt_at hj))
  have h63 := dbt_le (tzw x)
  unfold tzw at *
  refine Fn.intro Tryz.call193 Tryz.func193 rfl Tryz.ntmps193 rfl ?_; intro g w Q hQ H
  refine sq ?_; intro K1 hK1; refine wp_region_lit ?_; refine xas rfl ?_; refine wpList_nil ?_; refine tn ?_; refine hK1 _ _ ?_; clear hK1 K1
  refine sq ?_; intro K2 hK2; refine sq ?_; intro K3 hK3; refine wp_region_lit ?_; refine xmv rfl ?_; refine xeq rfl rfl ?_; refine wpList_nil ?_
  refine tn ?_; refine hK3 _ _ ?_; clear hK3 K3
  refine if_ rfl (fun h => ?_) (fun h => ?_)
  · refine sq ?_; intro K4 hK4; refine wp_region_lit ?_; refine xas rfl ?_; refine wpList_nil ?_; refine tn ?_; refine hK4 _ _ ?_; clear hK4 K4; refine wp_ret ?_
    refine tr ?_; clear hK2 K2
    refine hQ _ _ _ ?_; refine r1 rfl rfl H ?_
    rw [if_pos (by simp at h; omega)]; exact ⟨rfl, rfl⟩
  · have h : ¬ x = 0 := by simp at h; omega
    refine wp_skip ?_; refine tn ?_; refine hK2 _ _ ?_; clear hK2 K2; refine sq ?_; intro K4 hK4; refine wp_region_lit ?_; refine xmv rfl ?_; refine xmv rfl ?_
    refine xngn_u64 rfl (by omega) (by omega) ?_
    refine xan_u64 rfl rfl (by omega) (by omega) ?_
    refine xmlm_u64 (b := 285870213051353865) rfl rfl ?_
    refine xsr_u64 (s := 58) rfl rfl (by omega) ?_
    refine xaa (j := ((x &&& (18446744073709551616 - x)) * 285870213051353865 % 18446744073709551616) >>> 58) rfl rfl rfl hj ?_
    refine xld 0 H rfl rfl hT' ?_
    refine xcvi rfl (wi64 (by omega)) ?_
    refine xas rfl ?_; refine wpList_nil ?_; refine tn ?_; refine hK4 _ _ ?_; clear hK4 K4; refine wp_ret ?_
    refine hQ _ _ _ ?_; refine r1 rfl rfl H ?_
    rw [if_neg h]; exact ⟨rfl, rfl⟩
def fParts (b : Nat) : Nat × Int × Bool :=
  if fClass b = 3 ∨ fClass b = 4 then (0, 0, true)
  else if fClass b = 5 then
    let m := if 0 < b >>> 52 then b % 2 ^ 52 ||| 4503599627370496 else b % 2 ^ 52
    let e : Int := if 0 < b >>> 52 then (-1074 : Int) + (((b >>> 52 : Nat) : Int) - 1) else (-1074 : Int)
    (m >>> tz m, e + tz m, true)
  else (0, 0, false)
theorem fParts_bd (b : Nat) (hb : b < 18446744073709551616) : (fParts b).1 < 18446744073709551616 ∧ -1074 ≤ (fParts b).2.1 ∧ (fParts b).2.1 ≤ 5000 := by
  unfold fParts
  split
  · simp
  · split
    · have h1 : b >>> 52 < 4096 := by rw [Nat.shiftRight_eq_div_pow]; omega
      have hm : (if 0 < b >>> 52 then b % 2 ^ 52 ||| 4503599627370496 else b % 2 ^ 52) < 18446744073709551616 := by
        split
        · exact Nat.or_lt_two_pow (n := 64) (by omega) (by decide)
        · omega
      simp only
      generalize (if 0 < b >>> 52 then b % 2 ^ 52 ||| 4503599627370496 else b % 2 ^ 52) = m at *
      have h2 := tz_le m
      refine ⟨Nat.lt_of_le_of_lt (by rw [Nat.shiftRight_eq_div_pow]; exact Nat.div_le_self _ _) hm, ?_, ?_⟩
      · split <;> omega
      · split <;> omega
    · simp
theorem c_parts (A : Asn) (hT : Tab A) (b : Nat) (hb : b < 18446744073709551616) : Fn Tryz.prog 166 [.int .u64 b] [A] (Ret fun v L => v = .tuple #[.int .u64 ((fParts b).1 : Nat), .int .i64 (fParts b).2.1, .bool (fParts b).2.2] ∧ L = [A]) := by
  unfold fParts
  have h1 : b >>> 52 < 4096 := by rw [Nat.shiftRight_eq_div_pow]; omega
  refine Fn.intro Tryz.call166 Tryz.func166 rfl Tryz.ntmps166 rfl ?_; intro g w Q hQ H
  refine sq ?_; intro K1 hK1; refine wp_region_lit ?_; refine xas rfl ?_; refine xas rfl ?_; refine xas rfl ?_; refine wpList_nil ?_
  refine tn ?_; refine hK1 _ _ ?_; clear hK1 K1; refine sq ?_; intro K2 hK2; refine sq ?_; intro K3 hK3; refine wp_region_lit ?_; refine xmv rfl ?_
  refine xc [] H ((c_class b hb)) rfl rfl rfl rfl rfl ?_; rintro _ _ w ⟨rfl, rfl⟩ H; replace H := H.ap rfl
  refine wpList_nil ?_; refine tn ?_; refine hK3 _ _ ?_; clear hK3 K3; refine wp_block ?_; refine sq ?_; intro K4 hK4; refine sq ?_; intro K5 hK5
  refine wp_region_lit ?_; refine xeq rfl rfl ?_; refine xas rfl ?_; refine wpList_nil ?_; refine tn ?_; refine hK5 _ _ ?_; clear hK5 K5
  refine cutK (g := g) (α := Bool) (fun c => [(0, .int .u64 b), (10, .int .i64 (fClass b)), (11, .bool c)]) (fun c => [A]) (fun c => c = decide (fClass b = 3 ∨ fClass b = 4)) (fun K6 hK6 => ?_) (fun c ρ w hI H => ?_)
  · skip
    refine if_ rfl (fun h => ?_) (fun h => ?_)
    · refine wp_skip ?_
      refine tn ?_; refine hK6 _ _ ((((fClass b : Nat) : Int) == 3)) ⟨rfl, rfl, rfl, True.intro⟩ ?_ H
      have h' : fClass b = 3 := by simp at h; omega
      rw [h']; decide
    · refine wp_region_lit ?_; refine xeq rfl rfl ?_; refine xas rfl ?_; refine wpList_nil ?_
      refine tn ?_; refine hK6 _ _ ((((fClass b : Nat) : Int) == 4)) ⟨rfl, rfl, rfl, True.intro⟩ ?_ H
      have h' : ¬ fClass b = 3 := by simp at h; omega
      by_cases h4 : fClass b = 4
      · rw [h4]; decide
      · rw [decide_eq_false (by omega : ¬ (fClass b = 3 ∨ fClass b = 4))]; simp; omega
  · refine hK4 _ _ ?_; clear hK4 K4
    refine if_ rfl (fun h => ?_) (fun h => ?_)
    · refine sq ?_; intro K7 hK7; refine wp_region_lit ?_; refine xas rfl ?_; refine xas rfl ?_; refine xas rfl ?_; refine wpList_nil ?_
      refine tn ?_; refine hK7 _ _ ?_; clear hK7 K7; refine wp_ret ?_; refine br ?_; refine tr ?_; clear hK2 K2
      refine hQ _ _ _ ?_; refine r3 rfl rfl rfl rfl H ?_
      rw [if_pos (by rw [hI] at h; simpa using h)]; exact ⟨rfl, rfl⟩
    · have h : ¬ (fClass b = 3 ∨ fClass b = 4) := by rw [hI] at h; simpa using h
      refine sq ?_; intro K7 hK7; refine wp_region_lit ?_; refine xeq rfl rfl ?_; refine xas rfl ?_; refine wpList_nil ?_
      refine tn ?_; refine hK7 _ _ ?_; clear hK7 K7
      refine if_ rfl (fun h2 => ?_) (fun h2 => ?_)
      · have h2 : fClass b = 5 := by simp at h2; omega
        refine sq ?_; intro K8 hK8; refine wp_region_lit ?_; refine xmv rfl ?_; refine xanm_u64 52 rfl rfl (by omega) (by decide) ?_; refine xas rfl ?_
        refine wpList_nil ?_; refine tn ?_; refine hK8 _ _ ?_; clear hK8 K8; refine sq ?_; intro K9 hK9; refine wp_region_lit ?_; refine xas rfl ?_; refine wpList_nil ?_
        refine tn ?_; refine hK9 _ _ ?_; clear hK9 K9; refine sq ?_; intro K10 hK10; refine sq ?_; intro K11 hK11; refine wp_region_lit ?_; refine xmv rfl ?_
        refine xsr_u64 (s := 52) rfl rfl (by omega) ?_
        refine xcvi rfl (wi64 (by omega)) ?_
        refine xas rfl ?_; refine wpList_nil ?_; refine tn ?_; refine hK11 _ _ ?_; clear hK11 K11; refine sq ?_; intro K12 hK12; refine wp_region_lit ?_
        refine xmv rfl ?_; refine xgt rfl rfl ?_; refine wpList_nil ?_; refine tn ?_; refine hK12 _ _ ?_; clear hK12 K12
        refine cutK2 (g := g) (α := Nat) (β := Int) (fun m e => [(5, .int .u64 m), (6, .int .i64 e)]) (fun m e => [A]) (fun m e => m = (if 0 < b >>> 52 then b % 2 ^ 52 ||| 4503599627370496 else b % 2 ^ 52) ∧ e = (if 0 < b >>> 52 then (-1074 : Int) + (((b >>> 52 : Nat) : Int) - 1) else -1074)) (fun K13 hK13 => ?_) (fun m e ρ w hI H => ?_)
        · skip
          refine if_ rfl (fun h3 => ?_) (fun h3 => ?_)
          · have h3 : 0 < b >>> 52 := by have := of_decide_eq_true h3; omega
            refine sq ?_; intro K14 hK14; refine wp_region_lit ?_; refine xmv rfl ?_
            refine xor_u64 (b := 4503599627370496) rfl rfl (by omega) (by omega) ?_
            refine xas rfl ?_; refine wpList_nil ?_; refine tn ?_; refine hK14 _ _ ?_; clear hK14 K14; refine wp_region_lit ?_; refine xmv rfl ?_; refine xmv rfl ?_
            refine xsbi rfl rfl (wi64 (by omega)) ?_
            refine xadi rfl rfl (wi64 (by omega)) ?_
            refine xas rfl ?_; refine wpList_nil ?_
            refine tn ?_; refine hK13 _ _ (b % 2 ^ 52 ||| 4503599627370496) ((-1074 : Int) + (((b >>> 52 : Nat) : Int) - 1)) ⟨rfl, rfl, True.intro⟩ ?_ H
            rw [if_pos h3, if_pos h3]; exact ⟨rfl, rfl⟩
          · have h3 : ¬ 0 < b >>> 52 := by have := of_decide_eq_false h3; omega
            refine wp_skip ?_
            refine tn ?_; refine hK13 _ _ (b % 2 ^ 52) (-1074) ⟨rfl, rfl, True.intro⟩ ?_ H
            rw [if_neg h3, if_neg h3]; exact ⟨rfl, rfl⟩
        · obtain ⟨hm, he⟩ := hI
          have hm64 : m < 18446744073709551616 := by
            rw [hm]; split
            · exact Nat.or_lt_two_pow (n := 64) (by omega) (by decide)
            · omega
          have hb : -1074 ≤ e ∧ e ≤ 4000 := by rw [he]; split <;> omega
          have hz := tz_le m
          refine hK10 _ _ ?_; clear hK10 K10; refine sq ?_; intro K14 hK14; refine wp_region_lit ?_; refine xmv rfl ?_
          refine xc [0] H ((c_tz A hT m hm64)) rfl rfl rfl rfl rfl ?_; rintro _ _ w ⟨rfl, rfl⟩ H; replace H := H.ap rfl
          refine xas rfl ?_; refine wpList_nil ?_; refine tn ?_; refine hK14 _ _ ?_; clear hK14 K14; refine sq ?_; intro K15 hK15; refine wp_region_lit ?_
          refine xmv rfl ?_; refine xmv rfl ?_
          refine xsr_u64 rfl rfl (by omega) ?_
          refine xmv rfl ?_; refine xmv rfl ?_
          refine xadi rfl rfl (wi64 (by omega)) ?_
          refine xas rfl ?_; refine xas rfl ?_; refine xas rfl ?_; refine wpList_nil ?_; refine tn ?_; refine hK15 _ _ ?_; clear hK15 K15; refine wp_ret ?_; refine br ?_
          refine tr ?_; clear hK2 K2
          refine hQ _ _ _ ?_; refine r3 rfl rfl rfl rfl H ?_
          rw [if_neg h, if_pos h2]; simp only [← hm, ← he]; exact ⟨trivial, trivial⟩
      · have h2 : ¬ fClass b = 5 := by simp at h2; omega
        refine wp_skip ?_; refine bn ?_; refine tn ?_; refine hK2 _ _ ?_; clear hK2 K2; refine sq ?_; intro K8 hK8; refine wp_region_lit ?_; refine xas rfl ?_
        refine xas rfl ?_; refine xas rfl ?_; refine wpList_nil ?_; refine tn ?_; refine hK8 _ _ ?_; clear hK8 K8; refine wp_ret ?_
        refine hQ _ _ _ ?_; refine r3 rfl rfl rfl rfl H ?_
        rw [if_neg h, if_neg h2]; exact ⟨rfl, rfl⟩
def pdown (hi lo s : Nat) : Nat := if 64 ≤ s then hi >>> (s - 64) else if hi >>> s ≠ 0 then 18446744073709551615 else hi <<< (64 - s) % 18446744073709551616 ||| lo >>> s
def pup (hi lo s : Nat) : Nat := if hi = 0 ∧ lo = 0 then 0 else if hi ≠ 0 ∨ 64 < len64 lo + s then 18446744073709551615 else lo <<< s % 18446744073709551616
theorem c_down (hi lo s : Nat) (hh : hi < 18446744073709551616) (hl : lo < 18446744073709551616) (hs : s < 1000000) : Fn Tryz.prog 168 [.int .u64 hi, .int .u64 lo, .int .u64 s] [] (Ret fun v L => v = .int .u64 (pdown hi lo s : Nat) ∧ L = []) := by
  unfold pdown
  refine Fn.intro Tryz.call168 Tryz.func168 rfl Tryz.ntmps168 rfl ?_; intro g w Q hQ H
  refine sq ?_; intro K1 hK1; refine wp_region_lit ?_; refine xas rfl ?_; refine wpList_nil ?_; refine tn ?_; refine hK1 _ _ ?_; clear hK1 K1
  refine sq ?_; intro K2 hK2; refine sq ?_; intro K3 hK3; refine wp_region_lit ?_; refine xmv rfl ?_; refine xge rfl rfl ?_; refine wpList_nil ?_
  refine tn ?_; refine hK3 _ _ ?_; clear hK3 K3
  refine if_ rfl (fun h => ?_) (fun h => ?_)
  · have h : 64 ≤ s := by have := of_decide_eq_true h; omega
    refine sq ?_; intro K4 hK4; refine wp_region_lit ?_; refine xmv rfl ?_; refine xmv rfl ?_
    refine xsbn_u64 (b := 64) rfl rfl (by assumption) (by omega) ?_
    refine xsr_u64 rfl rfl (by omega) ?_
    refine xas rfl ?_; refine wpList_nil ?_; refine tn ?_; refine hK4 _ _ ?_; clear hK4 K4; refine wp_ret ?_; refine tr ?_; clear hK2 K2
    refine hQ _ _ _ ?_; refine r1 rfl rfl H ?_
    rw [if_pos h]; exact ⟨rfl, rfl⟩
  · have h : ¬ 64 ≤ s := by have := of_decide_eq_false h; omega
    have hs2 : hi >>> s < 18446744073709551616 := Nat.lt_of_le_of_lt (by rw [Nat.shiftRight_eq_div_pow]; exact Nat.div_le_self _ _) hh
    have hs3 : lo >>> s < 18446744073709551616 := Nat.lt_of_le_of_lt (by rw [Nat.shiftRight_eq_div_pow]; exact Nat.div_le_self _ _) hl
    have hs4 : hi <<< (64 - s) % 18446744073709551616 < 18446744073709551616 := Nat.mod_lt _ (by decide)
    refine wp_skip ?_; refine tn ?_; refine hK2 _ _ ?_; clear hK2 K2; refine sq ?_; intro K4 hK4; refine sq ?_; intro K5 hK5; refine wp_region_lit ?_
    refine xmv rfl ?_; refine xmv rfl ?_
    refine xsr_u64 rfl rfl (by omega) ?_
    refine xne rfl rfl ?_; refine wpList_nil ?_; refine tn ?_; refine hK5 _ _ ?_; clear hK5 K5
    refine if_ rfl (fun h2 => ?_) (fun h2 => ?_)
    · have h2 : hi >>> s ≠ 0 := by intro e; rw [e] at h2; simp at h2
      refine sq ?_; intro K6 hK6; refine wp_region_lit ?_; refine xas rfl ?_; refine wpList_nil ?_; refine tn ?_; refine hK6 _ _ ?_; clear hK6 K6; refine wp_ret ?_
      refine tr ?_; clear hK4 K4
      refine hQ _ _ _ ?_; refine r1 rfl rfl H ?_
      rw [if_neg h, if_pos h2]; exact ⟨rfl, rfl⟩
    · have h2 : ¬ hi >>> s ≠ 0 := by intro e; apply e; simp at h2; exact_mod_cast h2
      refine wp_skip ?_; refine tn ?_; refine hK4 _ _ ?_; clear hK4 K4; refine sq ?_; intro K6 hK6; refine wp_region_lit ?_; refine xmv rfl ?_; refine xmv rfl ?_
      refine xsbn_u64 (a := 64) rfl rfl (by omega) (by omega) ?_
      refine xsl_u64 rfl rfl ?_
      refine xmv rfl ?_; refine xmv rfl ?_
      refine xsr_u64 rfl rfl (by omega) ?_
      refine xor_u64 rfl rfl (by omega) (by omega) ?_
      refine xas rfl ?_; refine wpList_nil ?_; refine tn ?_; refine hK6 _ _ ?_; clear hK6 K6; refine wp_ret ?_
      refine hQ _ _ _ ?_; refine r1 rfl rfl H ?_
      rw [if_neg h, if_neg h2]; exact ⟨rfl, rfl⟩
theorem len64_le (x : Nat) (hx : x < 18446744073709551616) : len64 x ≤ 64 := by
  unfold len64 len64c len64b len64a
  simp only
  have := lenTab_le
  repeat' split
  all_goals (simp only; have h := lenTab_le; first | exact Nat.le_trans (Nat.add_le_add_left (h _) _) (by decide))
theorem c_up (hi lo s : Nat) (hh : hi < 18446744073709551616) (hl : lo < 18446744073709551616) (hs : s < 1000000) : Fn Tryz.prog 169 [.int .u64 hi, .int .u64 lo, .int .u64 s] [] (Ret fun v L => v = .int .u64 (pup hi lo s : Nat) ∧ L = []) := by
  unfold pup
  have hle := len64_le lo hl
  refine Fn.intro Tryz.call169 Tryz.func169 rfl Tryz.ntmps169 rfl ?_; intro g w Q hQ H
  refine sq ?_; intro K1 hK1; refine wp_region_lit ?_; refine xas rfl ?_; refine wpList_nil ?_; refine tn ?_; refine hK1 _ _ ?_; clear hK1 K1
  refine sq ?_; intro K2 hK2; refine sq ?_; intro K3 hK3; refine wp_region_lit ?_; refine xmv rfl ?_; refine xeq rfl rfl ?_; refine xmv rfl ?_
  refine jand (b := ?b1) 3 9 [10, 11] 12 rfl rfl H (fun hhc1 hc1 => ?a1) (fun hhc1 hc1 => ?o1) ?_
  case a1 =>
    refine xgy rfl rfl rfl ?_; refine xmv rfl ?_; refine xgy rfl rfl rfl ?_; refine xeq rfl rfl ?_; refine xpkt rfl rfl ?_; exact hc1 _ _ _ H
  case o1 =>
    refine xgn rfl rfl rfl ?_; refine xgn rfl rfl rfl ?_; refine xpkf rfl rfl ?_; exact hc1 _ _ _ H
  intro u10 u11 w H; refine wpList_nil ?_; refine tn ?_; refine hK3 _ _ ?_; clear hK3 K3
  refine if_ rfl (fun h => ?_) (fun h => ?_)
  · refine sq ?_; intro K4 hK4; refine wp_region_lit ?_; refine xas rfl ?_; refine wpList_nil ?_; refine tn ?_; refine hK4 _ _ ?_; clear hK4 K4; refine wp_ret ?_
    refine tr ?_; clear hK2 K2
    refine hQ _ _ _ ?_; refine r1 rfl rfl H ?_
    rw [if_pos (by simp at h; omega)]; exact ⟨rfl, rfl⟩
  · have h : ¬ (hi = 0 ∧ lo = 0) := by simp at h; omega
    refine wp_skip ?_; refine tn ?_; refine hK2 _ _ ?_; clear hK2 K2; refine sq ?_; intro K4 hK4; refine sq ?_; intro K5 hK5; refine wp_region_lit ?_
    refine xmv rfl ?_; refine xne rfl rfl ?_; refine xmv rfl ?_
    refine jor (b := ?b2) 7 15 [16, 17, 18, 19, 20, 21] 22 rfl rfl H (fun hhc2 hc2 => ?a2) (fun hhc2 hc2 => ?o2) ?_
    case a2 =>
      refine xgy rfl rfl rfl ?_; refine xmv rfl ?_; refine xgy rfl rfl rfl ?_
      refine xc [] H ((c_len64 lo hl)) rfl rfl rfl rfl rfl ?_; rintro _ _ w ⟨rfl, rfl⟩ H; replace H := H.ap rfl
      refine xgy rfl rfl rfl ?_
      refine xcvi rfl (wu64 (by omega)) ?_
      refine xgy rfl rfl rfl ?_; refine xmv rfl ?_; refine xgy rfl rfl rfl ?_
      refine xadn_u64 rfl rfl (by omega) ?_
      refine xgy rfl rfl rfl ?_; refine xgt rfl rfl ?_; refine xpkf rfl rfl ?_; exact hc2 _ _ _ _ _ _ _ H
    case o2 =>
      refine xgn rfl rfl rfl ?_; refine xgn rfl rfl rfl ?_; refine xgn rfl rfl rfl ?_; refine xgn rfl rfl rfl ?_; refine xgn rfl rfl rfl ?_; refine xgn rfl rfl rfl ?_
      refine xpkt rfl rfl ?_; exact hc2 _ _ _ _ _ _ _ H
    intro u16 u17 u18 u19 u20 u21 w H; refine wpList_nil ?_; refine tn ?_; refine hK5 _ _ ?_; clear hK5 K5
    refine if_ rfl (fun h2 => ?_) (fun h2 => ?_)
    · refine sq ?_; intro K6 hK6; refine wp_region_lit ?_; refine xas rfl ?_; refine wpList_nil ?_; refine tn ?_; refine hK6 _ _ ?_; clear hK6 K6; refine wp_ret ?_
      refine tr ?_; clear hK4 K4
      refine hQ _ _ _ ?_; refine r1 rfl rfl H ?_
      rw [if_neg h, if_pos (by simp at h2; omega)]; exact ⟨rfl, rfl⟩
    · refine wp_skip ?_; refine tn ?_; refine hK4 _ _ ?_; clear hK4 K4; refine sq ?_; intro K6 hK6; refine wp_region_lit ?_; refine xmv rfl ?_; refine xmv rfl ?_
      refine xsl_u64 rfl rfl ?_
      refine xas rfl ?_; refine wpList_nil ?_; refine tn ?_; refine hK6 _ _ ?_; clear hK6 K6; refine wp_ret ?_
      refine hQ _ _ _ ?_; refine r1 rfl rfl H ?_
      rw [if_neg h, if_neg (by simp at h2; omega)]; exact ⟨rfl, rfl⟩
def pdue (n b : Nat) : Nat :=
  let q := n * (fParts b).1
  if (fParts b).2.1 < 0 then pdown (q / 18446744073709551616) (q % 18446744073709551616) (-(fParts b).2.1).toNat else pup (q / 18446744073709551616) (q % 18446744073709551616) (fParts b).2.1.toNat
theorem c_due (A : Asn) (hT : Tab A) (n b : Nat) (hn : n < 18446744073709551616) (hb : b < 18446744073709551616) : Fn Tryz.prog 139 [.int .u64 n, .int .u64 b] [A]
    (Ret fun v L => v = (if fPrice b = true then .tuple #[.int .u64 (pdue n b : Nat), .int .i64 0] else .tuple #[.int .u64 0, .int .i64 13]) ∧ L = [A]) := by
  unfold pdue
  have hp := fParts_bd b hb
  refine Fn.intro Tryz.call139 Tryz.func139 rfl Tryz.ntmps139 rfl ?_; intro g w Q hQ H
  by_cases hf : fPrice b = true
  · refine sq ?_; intro K1 hK1; refine wp_region_lit ?_; refine xas rfl ?_; refine xas rfl ?_; refine wpList_nil ?_; refine tn ?_; refine hK1 _ _ ?_; clear hK1 K1
    refine sq ?_; intro K2 hK2; refine sq ?_; intro K3 hK3; refine wp_region_lit ?_; refine xmv rfl ?_
    refine xc [] H (((by have := c_pcheck b hb; simpa only [if_pos hf] using this : Fn Tryz.prog 143 [.int .u64 b] [] (Ret fun v L => v = .tuple #[.int .u64 (fCanon b : Nat), .int .i64 0] ∧ L = [])))) rfl rfl rfl rfl rfl ?_; rintro _ _ w ⟨rfl, rfl⟩ H; replace H := H.ap rfl
    refine xmv rfl ?_; refine xex rfl rfl ?_; refine xex rfl rfl ?_; refine xas rfl ?_; refine xas rfl ?_; refine wpList_nil ?_
    refine tn ?_; refine hK3 _ _ ?_; clear hK3 K3; refine sq ?_; intro K4 hK4; refine wp_region_lit ?_; refine xmv rfl ?_; refine xne rfl rfl ?_
    refine wpList_nil ?_; refine tn ?_; refine hK4 _ _ ?_; clear hK4 K4; refine iff_ rfl ?_; refine wp_skip ?_; refine tn ?_; refine hK2 _ _ ?_; clear hK2 K2
    refine sq ?_; intro K5 hK5; refine wp_region_lit ?_; refine xmv rfl ?_
    refine xc [0] H ((c_parts A hT b hb)) rfl rfl rfl rfl rfl ?_; rintro _ _ w ⟨rfl, rfl⟩ H; replace H := H.ap rfl
    obtain ⟨hp1, hp2, hp3⟩ := hp
    generalize fParts b = t at *
    obtain ⟨m, e, ok⟩ := t
    simp only at hp1 hp2 hp3 ⊢
    refine xmv rfl ?_; refine xex rfl rfl ?_; refine xex rfl rfl ?_; refine xex rfl rfl ?_; refine xas rfl ?_; refine xas rfl ?_; refine xas rfl ?_
    refine wpList_nil ?_; refine tn ?_; refine hK5 _ _ ?_; clear hK5 K5; refine sq ?_; intro K6 hK6; refine wp_region_lit ?_; refine xmv rfl ?_; refine xmv rfl ?_
    refine xc [] H ((c_mul64 n m hn hp1)) rfl rfl rfl rfl rfl ?_; rintro _ _ w ⟨rfl, rfl⟩ H; replace H := H.ap rfl
    have hq1 : n * m / 18446744073709551616 < 18446744073709551616 := Nat.div_lt_of_lt_mul (Nat.mul_lt_mul_of_lt_of_lt hn hp1)
    have hq2 : n * m % 18446744073709551616 < 18446744073709551616 := Nat.mod_lt _ (by decide)
    refine xmv rfl ?_; refine xex rfl rfl ?_; refine xex rfl rfl ?_; refine xas rfl ?_; refine xas rfl ?_; refine wpList_nil ?_
    refine tn ?_; refine hK6 _ _ ?_; clear hK6 K6; refine sq ?_; intro K7 hK7; refine sq ?_; intro K8 hK8; refine wp_region_lit ?_; refine xmv rfl ?_
    refine xlt rfl rfl ?_; refine wpList_nil ?_; refine tn ?_; refine hK8 _ _ ?_; clear hK8 K8
    refine if_ rfl (fun h => ?_) (fun h => ?_)
    · have h : e < 0 := of_decide_eq_true h
      obtain ⟨k, rfl⟩ : ∃ k : Nat, e = -(k : Int) := ⟨(-e).toNat, by omega⟩
      refine sq ?_; intro K9 hK9; refine wp_region_lit ?_; refine xmv rfl ?_; refine xmv rfl ?_; refine xmv rfl ?_
      refine xngi rfl (by omega) ?_
      refine xcvi rfl (wu64 (by omega)) ?_
      rw [Int.neg_neg]
      refine xc [] H ((c_down (n * m / 18446744073709551616) (n * m % 18446744073709551616) k hq1 hq2 (by omega))) rfl rfl rfl rfl rfl ?_; rintro _ _ w ⟨rfl, rfl⟩ H; replace H := H.ap rfl
      refine xas rfl ?_; refine xas rfl ?_; refine wpList_nil ?_; refine tn ?_; refine hK9 _ _ ?_; clear hK9 K9; refine wp_ret ?_; refine tr ?_; clear hK7 K7
      refine hQ _ _ _ ?_; refine r2 rfl rfl rfl H ?_
      rw [if_pos hf, if_pos h, Int.neg_neg]; exact ⟨rfl, rfl⟩
    · have h : ¬ e < 0 := of_decide_eq_false h
      obtain ⟨k, rfl⟩ : ∃ k : Nat, e = (k : Int) := ⟨e.toNat, by omega⟩
      refine wp_skip ?_; refine tn ?_; refine hK7 _ _ ?_; clear hK7 K7; refine sq ?_; intro K9 hK9; refine wp_region_lit ?_; refine xmv rfl ?_; refine xmv rfl ?_
      refine xmv rfl ?_
      refine xcvi rfl (wu64 (by omega)) ?_
      refine xc [] H ((c_up (n * m / 18446744073709551616) (n * m % 18446744073709551616) k hq1 hq2 (by omega))) rfl rfl rfl rfl rfl ?_; rintro _ _ w ⟨rfl, rfl⟩ H; replace H := H.ap rfl
      refine xas rfl ?_; refine xas rfl ?_; refine wpList_nil ?_; refine tn ?_; refine hK9 _ _ ?_; clear hK9 K9; refine wp_ret ?_
      refine hQ _ _ _ ?_; refine r2 rfl rfl rfl H ?_
      rw [if_pos hf, if_neg h]; exact ⟨rfl, rfl⟩
  · refine sq ?_; intro K1 hK1; refine wp_region_lit ?_; refine xas rfl ?_; refine xas rfl ?_; refine wpList_nil ?_; refine tn ?_; refine hK1 _ _ ?_; clear hK1 K1
    refine sq ?_; intro K2 hK2; refine sq ?_; intro K3 hK3; refine wp_region_lit ?_; refine xmv rfl ?_
    refine xc [] H (((by have := c_pcheck b hb; simpa only [if_neg hf] using this : Fn Tryz.prog 143 [.int .u64 b] [] (Ret fun v L => v = .tuple #[.int .u64 0, .int .i64 13] ∧ L = [])))) rfl rfl rfl rfl rfl ?_; rintro _ _ w ⟨rfl, rfl⟩ H; replace H := H.ap rfl
    refine xmv rfl ?_; refine xex rfl rfl ?_; refine xex rfl rfl ?_; refine xas rfl ?_; refine xas rfl ?_; refine wpList_nil ?_
    refine tn ?_; refine hK3 _ _ ?_; clear hK3 K3; refine sq ?_; intro K4 hK4; refine wp_region_lit ?_; refine xmv rfl ?_; refine xne rfl rfl ?_
    refine wpList_nil ?_; refine tn ?_; refine hK4 _ _ ?_; clear hK4 K4; refine ift rfl ?_; refine sq ?_; intro K5 hK5; refine wp_region_lit ?_; refine xmv rfl ?_
    refine xas rfl ?_; refine xas rfl ?_; refine wpList_nil ?_; refine tn ?_; refine hK5 _ _ ?_; clear hK5 K5; refine wp_ret ?_; refine tr ?_; clear hK2 K2
    refine hQ _ _ _ ?_; refine r2 rfl rfl rfl H ?_
    rw [if_neg hf]; exact ⟨rfl, rfl⟩
end Go.Proofs.YtegllbmkkfnajaaGreatDoor
end
section
namespace Go.Proofs.YtegllbmkkfnajaaGreatDoor
open Go Go.Proofs
attribute [local irreducible] Go.wpList Go.Code.wp St Fn mk
set_option maxRecDepth 20000
def digit (r : Int) : Bool := decide (48 ≤ r) && decide (r ≤ 57)
def lower (r : Int) : Bool := decide (97 ≤ r) && decide (r ≤ 122)
def small (r : Int) : Bool := (lower r || digit r) || (r == 45)
def targ (r : Int) : Bool := (small r || (r == 46)) || (r == 58)
theorem c_digit (r : Int) : Fn Tryz.prog 136 [.int .i32 r] [] (Ret fun v L => v = .bool (digit r) ∧ L = []) := by
  refine Fn.intro Tryz.call136 Tryz.func136 rfl Tryz.ntmps136 rfl ?_; intro g w Q hQ H
  refine sq ?_; intro K1 hK1; refine wp_region_lit ?_; refine xas rfl ?_; refine wpList_nil ?_; refine tn ?_; refine hK1 _ _ ?_; clear hK1 K1
  refine sq ?_; intro K2 hK2; refine wp_region_lit ?_; refine xmv rfl ?_; refine xle rfl rfl ?_; refine xmv rfl ?_
  refine jand (b := ?b1) 3 5 [6, 7] 8 rfl rfl H (fun hhc1 hc1 => ?a1) (fun hhc1 hc1 => ?o1) ?_
  case a1 =>
    refine xgy rfl rfl rfl ?_; refine xmv rfl ?_; refine xgy rfl rfl rfl ?_; refine xle rfl rfl ?_; refine xpkt rfl rfl ?_; exact hc1 _ _ _ H
  case o1 =>
    refine xgn rfl rfl rfl ?_; refine xgn rfl rfl rfl ?_; refine xpkf rfl rfl ?_; exact hc1 _ _ _ H
  intro u6 u7 w H; refine xas rfl ?_; refine wpList_nil ?_; refine tn ?_; refine hK2 _ _ ?_; clear hK2 K2; refine wp_ret ?_
  refine hQ _ _ _ ?_; refine r1 rfl rfl H ?_
  exact ⟨rfl, rfl⟩
theorem c_lower (r : Int) : Fn Tryz.prog 142 [.int .i32 r] [] (Ret fun v L => v = .bool (lower r) ∧ L = []) := by
  refine Fn.intro Tryz.call142 Tryz.func142 rfl Tryz.ntmps142 rfl ?_; intro g w Q hQ H
  refine sq ?_; intro K1 hK1; refine wp_region_lit ?_; refine xas rfl ?_; refine wpList_nil ?_; refine tn ?_; refine hK1 _ _ ?_; clear hK1 K1
  refine sq ?_; intro K2 hK2; refine wp_region_lit ?_; refine xmv rfl ?_; refine xle rfl rfl ?_; refine xmv rfl ?_
  refine jand (b := ?b1) 3 5 [6, 7] 8 rfl rfl H (fun hhc1 hc1 => ?a1) (fun hhc1 hc1 => ?o1) ?_
  case a1 =>
    refine xgy rfl rfl rfl ?_; refine xmv rfl ?_; refine xgy rfl rfl rfl ?_; refine xle rfl rfl ?_; refine xpkt rfl rfl ?_; exact hc1 _ _ _ H
  case o1 =>
    refine xgn rfl rfl rfl ?_; refine xgn rfl rfl rfl ?_; refine xpkf rfl rfl ?_; exact hc1 _ _ _ H
  intro u6 u7 w H; refine xas rfl ?_; refine wpList_nil ?_; refine tn ?_; refine hK2 _ _ ?_; clear hK2 K2; refine wp_ret ?_
  refine hQ _ _ _ ?_; refine r1 rfl rfl H ?_
  exact ⟨rfl, rfl⟩
theorem c_small (r : Int) : Fn Tryz.prog 100 [.int .i32 r] [] (Ret fun v L => v = .bool (small r) ∧ L = []) := by
  refine Fn.intro Tryz.call100 Tryz.func100 rfl Tryz.ntmps100 rfl ?_; intro g w Q hQ H
  refine sq ?_; intro K1 hK1; refine wp_region_lit ?_; refine xas rfl ?_; refine wpList_nil ?_; refine tn ?_; refine hK1 _ _ ?_; clear hK1 K1
  refine sq ?_; intro K2 hK2; refine wp_region_lit ?_; refine xmv rfl ?_; refine xle rfl rfl ?_; refine xmv rfl ?_
  refine jand (b := ?b1) 3 5 [6, 7] 8 rfl rfl H (fun hhc1 hc1 => ?a1) (fun hhc1 hc1 => ?o1) ?_
  case a1 =>
    refine xgy rfl rfl rfl ?_; refine xmv rfl ?_; refine xgy rfl rfl rfl ?_; refine xle rfl rfl ?_; refine xpkt rfl rfl ?_; exact hc1 _ _ _ H
  case o1 =>
    refine xgn rfl rfl rfl ?_; refine xgn rfl rfl rfl ?_; refine xpkf rfl rfl ?_; exact hc1 _ _ _ H
  intro u6 u7 w H; refine xmv rfl ?_; refine jor (b := ?b2) 3 9 [10, 11] 12 rfl rfl H (fun hhc2 hc2 => ?a2) (fun hhc2 hc2 => ?o2) ?_
  case a2 =>
    refine xgy rfl rfl rfl ?_; refine xmv rfl ?_; refine xgy rfl rfl rfl ?_
    refine xc [] H ((c_digit r)) rfl rfl rfl rfl rfl ?_; rintro _ _ w ⟨rfl, rfl⟩ H; replace H := H.ap rfl
    refine xpkf rfl rfl ?_; exact hc2 _ _ _ H
  case o2 =>
    refine xgn rfl rfl rfl ?_; refine xgn rfl rfl rfl ?_; refine xpkt rfl rfl ?_; exact hc2 _ _ _ H
  intro u10 u11 w H; refine xmv rfl ?_; refine jor (b := ?b3) 3 13 [14, 15] 16 rfl rfl H (fun hhc3 hc3 => ?a3) (fun hhc3 hc3 => ?o3) ?_
  case a3 =>
    refine xgy rfl rfl rfl ?_; refine xmv rfl ?_; refine xgy rfl rfl rfl ?_; refine xeq rfl rfl ?_; refine xpkf rfl rfl ?_; exact hc3 _ _ _ H
  case o3 =>
    refine xgn rfl rfl rfl ?_; refine xgn rfl rfl rfl ?_; refine xpkt rfl rfl ?_; exact hc3 _ _ _ H
  intro u14 u15 w H; refine xas rfl ?_; refine wpList_nil ?_; refine tn ?_; refine hK2 _ _ ?_; clear hK2 K2; refine wp_ret ?_
  refine hQ _ _ _ ?_; refine r1 rfl rfl H ?_
  exact ⟨rfl, rfl⟩
theorem c_targ (r : Int) : Fn Tryz.prog 99 [.int .i32 r] [] (Ret fun v L => v = .bool (targ r) ∧ L = []) := by
  refine Fn.intro Tryz.call99 Tryz.func99 rfl Tryz.ntmps99 rfl ?_; intro g w Q hQ H
  refine sq ?_; intro K1 hK1; refine wp_region_lit ?_; refine xas rfl ?_; refine wpList_nil ?_; refine tn ?_; refine hK1 _ _ ?_; clear hK1 K1
  refine sq ?_; intro K2 hK2; refine wp_region_lit ?_; refine xmv rfl ?_
  refine xc [] H ((c_small r)) rfl rfl rfl rfl rfl ?_; rintro _ _ w ⟨rfl, rfl⟩ H; replace H := H.ap rfl
  refine xmv rfl ?_; refine jor (b := ?b1) 3 5 [6, 7] 8 rfl rfl H (fun hhc1 hc1 => ?a1) (fun hhc1 hc1 => ?o1) ?_
  case a1 =>
    refine xgy rfl rfl rfl ?_; refine xmv rfl ?_; refine xgy rfl rfl rfl ?_; refine xeq rfl rfl ?_; refine xpkf rfl rfl ?_; exact hc1 _ _ _ H
  case o1 =>
    refine xgn rfl rfl rfl ?_; refine xgn rfl rfl rfl ?_; refine xpkt rfl rfl ?_; exact hc1 _ _ _ H
  intro u6 u7 w H; refine xmv rfl ?_; refine jor (b := ?b2) 3 9 [10, 11] 12 rfl rfl H (fun hhc2 hc2 => ?a2) (fun hhc2 hc2 => ?o2) ?_
  case a2 =>
    refine xgy rfl rfl rfl ?_; refine xmv rfl ?_; refine xgy rfl rfl rfl ?_; refine xeq rfl rfl ?_; refine xpkf rfl rfl ?_; exact hc2 _ _ _ H
  case o2 =>
    refine xgn rfl rfl rfl ?_; refine xgn rfl rfl rfl ?_; refine xpkt rfl rfl ?_; exact hc2 _ _ _ H
  intro u10 u11 w H; refine xas rfl ?_; refine wpList_nil ?_; refine tn ?_; refine hK2 _ _ ?_; clear hK2 K2; refine wp_ret ?_
  refine hQ _ _ _ ?_; refine r1 rfl rfl H ?_
  exact ⟨rfl, rfl⟩
end Go.Proofs.YtegllbmkkfnajaaGreatDoor
end
section
namespace Go.Proofs.YtegllbmkkfnajaaGreatDoor
open Go Go.Proofs
attribute [local irreducible] Go.wpList Go.Code.wp St Fn mk
set_option maxRecDepth 20000
def named (p q : Int → Bool) (most : Int) (bs : List UInt8) : Bool :=
  !((bs.length : Int) == 0 || decide ((bs.length : Int) > most)) && bs.all (fun c => p c.toNat) && (match bs with | [] => true | c :: _ => q c.toNat)
def namedTo (p q : Int → Bool) (bs : List UInt8) (k : Nat) : Prop := (∀ j c, j < k → bs[j]? = some c → p c.toNat = true) ∧ (0 < k → ∀ c, bs[0]? = some c → q c.toNat = true)
theorem named_of {p q : Int → Bool} {most : Int} {bs : List UInt8} (h0 : ((bs.length : Int) == 0 || decide ((bs.length : Int) > most)) = false) (h : namedTo p q bs bs.length) : named p q most bs = true := by
  unfold named
  rw [h0]
  have h1 : bs.all (fun c => p c.toNat) = true := by
    rw [List.all_eq_true]
    intro c hc
    obtain ⟨j, hj, e⟩ := List.getElem_of_mem hc
    exact h.1 j c hj (by rw [List.getElem?_eq_getElem hj, e])
  rw [h1]
  cases bs with
  | nil => rfl
  | cons c l => exact h.2 (by simp) c rfl
theorem named_no {p q : Int → Bool} {most : Int} {bs : List UInt8} {j : Nat} {c : UInt8} (hj : bs[j]? = some c) (h : p c.toNat = false ∨ j = 0 ∧ q c.toNat = false) : named p q most bs = false := by
  unfold named
  rcases h with h | ⟨rfl, h⟩
  · have : bs.all (fun c => p c.toNat) = false := by
      rw [← Bool.not_eq_true, List.all_eq_true]
      intro ha
      have := ha c (List.mem_of_getElem? hj)
      rw [h] at this; cases this
    rw [this]; simp
  · cases bs with
    | nil => simp at hj
    | cons d l => simp at hj; subst hj; simp [h]
abbrev fn0 (f : Nat) : Value := .func (.func f) #[] #[]
theorem c_named (bs : List UInt8) (most : Int) (fa fb : Nat) (p q : Int → Bool) (hp : ∀ r, Fn Tryz.prog fa [.int .i32 r] [] (Ret fun v L => v = .bool (p r) ∧ L = [])) (hq : ∀ r, Fn Tryz.prog fb [.int .i32 r] [] (Ret fun v L => v = .bool (q r) ∧ L = [])) (h128 : ∀ r, 128 ≤ r → p r = false) :
    Fn Tryz.prog 98 [.string (str bs), .int .i64 most, fn0 fa, fn0 fb] [] (Ret fun v L => v = .bool (named p q most bs) ∧ L = []) := by
  refine Fn.intro Tryz.call98 Tryz.func98 rfl Tryz.ntmps98 rfl ?_; intro g w Q hQ H
  refine sq ?_; intro K1 hK1; refine wp_region_lit ?_; refine xas rfl ?_; refine wpList_nil ?_; refine tn ?_; refine hK1 _ _ ?_; clear hK1 K1
  refine sq ?_; intro K2 hK2; refine sq ?_; intro K3 hK3; refine wp_region_lit ?_; refine xmv rfl ?_
  refine xlsS rfl ?_
  refine xeq rfl rfl ?_; refine xmv rfl ?_; refine jor (b := ?b1) 5 14 [15, 16, 17, 18] 19 rfl rfl H (fun hhc1 hc1 => ?a1) (fun hhc1 hc1 => ?o1) ?_
  case a1 =>
    refine xgy rfl rfl rfl ?_; refine xmv rfl ?_; refine xgy rfl rfl rfl ?_
    refine xlsS rfl ?_
    refine xgy rfl rfl rfl ?_; refine xmv rfl ?_; refine xgy rfl rfl rfl ?_; refine xgt rfl rfl ?_; refine xpkf rfl rfl ?_; exact hc1 _ _ _ _ _ H
  case o1 =>
    refine xgn rfl rfl rfl ?_; refine xgn rfl rfl rfl ?_; refine xgn rfl rfl rfl ?_; refine xgn rfl rfl rfl ?_; refine xpkt rfl rfl ?_; exact hc1 _ _ _ _ _ H
  intro u15 u16 u17 u18 w H; refine wpList_nil ?_; refine tn ?_; refine hK3 _ _ ?_; clear hK3 K3
  refine if_ rfl (fun h0 => ?_) (fun h0 => ?_)
  · refine sq ?_; intro K4 hK4; refine wp_region_lit ?_; refine xas rfl ?_; refine wpList_nil ?_; refine tn ?_; refine hK4 _ _ ?_; clear hK4 K4; refine wp_ret ?_
    refine tr ?_; clear hK2 K2
    refine hQ _ _ _ ?_; refine r1 rfl rfl H ?_
    exact ⟨by unfold named; rw [h0]; rfl, rfl⟩
  · refine wp_skip ?_; refine tn ?_; refine hK2 _ _ ?_; clear hK2 K2; refine sq ?_; intro K4 hK4; refine sq ?_; intro K5 hK5; refine wp_region_lit ?_
    refine xmv rfl ?_; refine xrs H rfl ?_; intro it21 w H; refine wpList_nil ?_; refine tn ?_; refine hK5 _ _ ?_; clear hK5 K5; refine wp_block ?_
    refine lp (α := Nat) (fun k => [(0, .string (str bs)), (2, fn0 fa), (3, fn0 fb), (21, .pointer (some ⟨it21, 0, none⟩))]) (fun k => [obj it21 (.stringIter (str bs) k)]) (fun k => k ≤ bs.length ∧ namedTo p q bs k) (fun k => bs.length - k) (0) ⟨rfl, rfl, rfl, rfl, True.intro⟩ (⟨Nat.zero_le _, fun j c hj => absurd hj (Nat.not_lt_zero _), fun hj => absurd hj (Nat.lt_irrefl _)⟩) H ?_; intro k ρ w hI H K6 hK6
    obtain ⟨hk, hto⟩ := hI
    refine sq ?_; intro K7 hK7; refine wp_region_lit ?_
    rcases Nat.lt_or_ge k bs.length with hl | hl
    · obtain ⟨c, r, wd, hc, hd, hlow, hhigh⟩ := dec_any hl
      refine xns 0 H rfl rfl hl hd ?_; intro w H
      refine xex rfl rfl ?_; refine wpList_nil ?_; refine tn ?_; refine hK7 _ _ ?_; clear hK7 K7; refine sq ?_; intro K8 hK8; refine ift rfl ?_; refine wp_skip ?_
      refine tn ?_; refine hK8 _ _ ?_; clear hK8 K8; refine wp_block ?_; refine sq ?_; intro K9 hK9; refine wp_region_lit ?_; refine xex rfl rfl ?_
      refine xex rfl rfl ?_; refine xas rfl ?_; refine xas rfl ?_; refine wpList_nil ?_; refine tn ?_; refine hK9 _ _ ?_; clear hK9 K9; refine sq ?_; intro K10 hK10
      refine wp_region_lit ?_; refine xmv rfl ?_; refine xmv rfl ?_
      refine xc [] H ((hp _)) rfl rfl rfl rfl rfl ?_; rintro _ _ w ⟨rfl, rfl⟩ H; replace H := H.ap rfl
      refine xnt rfl ?_; refine xmv rfl ?_; refine jor (b := ?b2) 9 30 [31, 32, 33, 34, 35, 36, 37, 38] 39 rfl rfl H (fun hhc2 hc2 => ?a2) (fun hhc2 hc2 => ?o2) ?_
      case a2 =>
        refine xgy rfl rfl rfl ?_; refine xmv rfl ?_; refine xgy rfl rfl rfl ?_; refine xeq rfl rfl ?_; refine xgy rfl rfl rfl ?_; refine xmv rfl ?_
        refine jand (b := ?b3) 5 33 [34, 35, 36, 37] 38 rfl rfl H (fun hhc3 hc3 => ?a3) (fun hhc3 hc3 => ?o3) ?_
        case a3 =>
          refine xgy rfl rfl rfl ?_; refine xmv rfl ?_; refine xgy rfl rfl rfl ?_; refine xmv rfl ?_; refine xgy rfl rfl rfl ?_
          refine xc [] H ((hq _)) rfl rfl rfl rfl rfl ?_; rintro _ _ w ⟨rfl, rfl⟩ H; replace H := H.ap rfl
          refine xgy rfl rfl rfl ?_; refine xnt rfl ?_; refine xgy rfl rfl rfl ?_; refine xpkt rfl rfl ?_; exact hc3 _ _ _ _ _ H
        case o3 =>
          refine xgn rfl rfl rfl ?_; refine xgn rfl rfl rfl ?_; refine xgn rfl rfl rfl ?_; refine xgn rfl rfl rfl ?_; refine xgy rfl rfl rfl ?_; refine xpkf rfl rfl ?_
          exact hc3 _ _ _ _ _ H
        intro u34 u35 u36 u37 w H; refine xpkf rfl rfl ?_; exact hc2 _ _ _ _ _ _ _ _ _ H
      case o2 =>
        refine xgn rfl rfl rfl ?_; refine xgn rfl rfl rfl ?_; refine xgn rfl rfl rfl ?_; refine xgu rfl rfl ?_; refine xgu rfl rfl ?_; refine xgu rfl rfl ?_
        refine xgu rfl rfl ?_; refine xgn rfl rfl rfl ?_; refine xpkt rfl rfl ?_; exact hc2 _ _ _ _ _ _ _ _ _ H
      intro u31 u32 u33 u34 u35 u36 u37 u38 w H; refine wpList_nil ?_; refine tn ?_; refine hK10 _ _ ?_; clear hK10 K10
      refine if_ rfl (fun h1 => ?_) (fun h1 => ?_)
      · refine sq ?_; intro K11 hK11; refine wp_region_lit ?_; refine xas rfl ?_; refine wpList_nil ?_; refine tn ?_; refine hK11 _ _ ?_; clear hK11 K11
        refine wp_ret ?_; refine br ?_; refine tr ?_; clear hK6 K6; refine br ?_; refine tr ?_; clear hK4 K4
        replace H := H.keeps [] rfl
        refine hQ _ _ _ ?_; refine r1 rfl rfl H ?_
        refine ⟨by
          rw [named_no (p := p) (q := q) hc]
          rcases Nat.lt_or_ge c.toNat 128 with h | h
          · obtain ⟨rfl, rfl⟩ := hlow h
            cases hpc : p c.toNat with
            | false => exact .inl rfl
            | true => rw [hpc] at h1; simp at h1; exact .inr h1
          · have := h128 c.toNat (by omega)
            exact .inl this, rfl⟩
      · have hpr : p r = true := by
          cases hpc : p r with
          | true => rfl
          | false => rw [hpc] at h1; simp at h1
        have hlt : c.toNat < 128 := by
          rcases Nat.lt_or_ge c.toNat 128 with h | h
          · exact h
          · have := h128 r (by have := hhigh h; omega)
            rw [hpr] at this; cases this
        obtain ⟨rfl, rfl⟩ := hlow hlt
        refine wp_skip ?_; refine bn ?_
        refine tn ?_; refine hK6 _ _ (k + 1) ⟨rfl, rfl, rfl, rfl, True.intro⟩ ?_ H ?_
        refine ⟨hl, fun j d hj hd' => ?_, fun _ d hd' => ?_⟩
        · rcases Nat.lt_or_ge j k with h | h
          · exact hto.1 j d h hd'
          · have : j = k := by omega
            subst this; rw [hc] at hd'; cases hd'; exact hpr
        · rcases Nat.eq_zero_or_pos k with h | h
          · subst h; rw [hc] at hd'; cases hd'
            rw [hpr] at h1; simpa using h1
          · exact hto.2 h d hd'
        omega
    · refine xnz 0 H rfl rfl hl ?_
      refine xex rfl rfl ?_; refine wpList_nil ?_; refine tn ?_; refine hK7 _ _ ?_; clear hK7 K7; refine sq ?_; intro K8 hK8; refine iff_ rfl ?_; refine wp_exit ?_
      refine te ?_; clear hK8 K8; refine te ?_; clear hK6 K6; refine be ?_; refine tn ?_; refine hK4 _ _ ?_; clear hK4 K4; refine sq ?_; intro K9 hK9
      refine wp_region_lit ?_; refine xas rfl ?_; refine wpList_nil ?_; refine tn ?_; refine hK9 _ _ ?_; clear hK9 K9; refine wp_ret ?_
      replace H := H.keeps [] rfl
      refine hQ _ _ _ ?_; refine r1 rfl rfl H ?_
      have : k = bs.length := by omega
      subst this
      exact ⟨by rw [named_of h0 hto], rfl⟩
theorem small128 (r : Int) (h : 128 ≤ r) : small r = false := by
  unfold small lower digit
  simp; omega
theorem targ128 (r : Int) (h : 128 ≤ r) : targ r = false := by
  unfold targ; rw [small128 r h]; simp; omega
def tenantOk (bs : List UInt8) : Bool := named small lower 16 bs
def targetOk (bs : List UInt8) : Bool := named targ small 24 bs
theorem c_tenant (bs : List UInt8) : Fn Tryz.prog 107 [.string (str bs)] [] (Ret fun v L => v = .bool (tenantOk bs) ∧ L = []) := by
  refine Fn.intro Tryz.call107 Tryz.func107 rfl Tryz.ntmps107 rfl ?_; intro g w Q hQ H
  refine sq ?_; intro K1 hK1; refine wp_region_lit ?_; refine xas rfl ?_; refine wpList_nil ?_; refine tn ?_; refine hK1 _ _ ?_; clear hK1 K1
  refine sq ?_; intro K2 hK2; refine wp_region_lit ?_; refine xmv rfl ?_
  refine xc [] H ((c_named bs 16 _ _ _ _ c_small c_lower small128)) rfl rfl rfl rfl rfl ?_; rintro _ _ w ⟨rfl, rfl⟩ H; replace H := H.ap rfl
  refine xas rfl ?_; refine wpList_nil ?_; refine tn ?_; refine hK2 _ _ ?_; clear hK2 K2; refine wp_ret ?_; refine hQ _ _ _ ?_; refine r1 rfl rfl H ?_
  exact ⟨rfl, rfl⟩
theorem c_target (bs : List UInt8) : Fn Tryz.prog 63 [.string (str bs)] [] (Ret fun v L => v = .bool (targetOk bs) ∧ L = []) := by
  refine Fn.intro Tryz.call63 Tryz.func63 rfl Tryz.ntmps63 rfl ?_; intro g w Q hQ H
  refine sq ?_; intro K1 hK1; refine wp_region_lit ?_; refine xas rfl ?_; refine wpList_nil ?_; refine tn ?_; refine hK1 _ _ ?_; clear hK1 K1
  refine sq ?_; intro K2 hK2; refine wp_region_lit ?_; refine xmv rfl ?_
  refine xc [] H ((c_named bs 24 _ _ _ _ c_targ c_small targ128)) rfl rfl rfl rfl rfl ?_; rintro _ _ w ⟨rfl, rfl⟩ H; replace H := H.ap rfl
  refine xas rfl ?_; refine wpList_nil ?_; refine tn ?_; refine hK2 _ _ ?_; clear hK2 K2; refine wp_ret ?_; refine hQ _ _ _ ?_; refine r1 rfl rfl H ?_
  exact ⟨rfl, rfl⟩
end Go.Proofs.YtegllbmkkfnajaaGreatDoor
end
section
namespace Go.Proofs.YtegllbmkkfnajaaGreatDoor
open Go Go.Proofs
attribute [local irreducible] Go.wpList Go.Code.wp St Fn mk
set_option maxRecDepth 20000
def sgn (i : Nat) : UInt8 := UInt8.ofNat (if i < 10 then 48 + i else 87 + i)
theorem c_sign (i : Nat) (hi : i < 16) : Fn Tryz.prog 97 [.int .u8 i] [] (Ret fun v L => v = .int .u8 (sgn i).toNat ∧ L = []) := by
  refine Fn.intro Tryz.call97 Tryz.func97 rfl Tryz.ntmps97 rfl ?_; intro g w Q hQ H
  refine sq ?_; intro K1 hK1; refine wp_region_lit ?_; refine xas rfl ?_; refine wpList_nil ?_; refine tn ?_; refine hK1 _ _ ?_; clear hK1 K1
  refine sq ?_; intro K2 hK2; refine sq ?_; intro K3 hK3; refine wp_region_lit ?_; refine xmv rfl ?_; refine xlt rfl rfl ?_; refine wpList_nil ?_
  refine tn ?_; refine hK3 _ _ ?_; clear hK3 K3
  refine if_ rfl (fun h => ?_) (fun h => ?_)
  · have h : i < 10 := by simp at h; omega
    refine sq ?_; intro K4 hK4; refine wp_region_lit ?_; refine xmv rfl ?_
    refine xadn_u8 (a := 48) rfl rfl (by omega) ?_
    refine xas rfl ?_; refine wpList_nil ?_; refine tn ?_; refine hK4 _ _ ?_; clear hK4 K4; refine wp_ret ?_; refine tr ?_; clear hK2 K2
    refine hQ _ _ _ ?_; refine r1 rfl rfl H ?_
    refine ⟨?_, rfl⟩
    unfold sgn; rw [if_pos h, UInt8.toNat_ofNat_of_lt' (by show _ < 256; omega)]
  · have h : ¬ i < 10 := by simp at h; omega
    refine wp_skip ?_; refine tn ?_; refine hK2 _ _ ?_; clear hK2 K2; refine sq ?_; intro K4 hK4; refine wp_region_lit ?_; refine xmv rfl ?_
    refine xadn_u8 (a := 97) rfl rfl (by omega) ?_
    refine xsbn_u8 (b := 10) rfl rfl (by omega) (by omega) ?_
    refine xas rfl ?_; refine wpList_nil ?_; refine tn ?_; refine hK4 _ _ ?_; clear hK4 K4; refine wp_ret ?_
    refine hQ _ _ _ ?_; refine r1 rfl rfl H ?_
    refine ⟨?_, rfl⟩
    unfold sgn; rw [if_neg h, UInt8.toNat_ofNat_of_lt' (by show _ < 256; omega)]
    congr 1 <;> omega
def hexs (bs : List UInt8) : List UInt8 := bs.flatMap fun b => [sgn (b.toNat >>> 4), sgn (b.toNat &&& 15)]
def hexOf (bs : List UInt8) : List UInt8 := if bs = [] then [45] else hexs bs
theorem hexs_len (bs : List UInt8) : (hexs bs).length = 2 * bs.length := by
  induction bs with
  | nil => rfl
  | cons b l ih => simp only [hexs, List.flatMap_cons, List.length_append, List.length_cons, List.length_nil] at ih ⊢; omega
theorem hexs_app (a b : List UInt8) : hexs (a ++ b) = hexs a ++ hexs b := by simp [hexs]
theorem c_hex (A : Asn) (ao : Option Addr) (cap : Nat) (bs : List UInt8) (hr : Bys A ao bs) (hl : bs.length ≤ 16777216) :
    Fn Tryz.prog 61 [.slice ao bs.length cap] [A] (Ret fun v L => v = .string (str (hexOf bs)) ∧ L = [A]) := by
  refine Fn.intro Tryz.call61 Tryz.func61 rfl Tryz.ntmps61 rfl ?_; intro g w Q hQ H
  refine sq ?_; intro K1 hK1; refine wp_region_lit ?_; refine xas rfl ?_; refine wpList_nil ?_; refine tn ?_; refine hK1 _ _ ?_; clear hK1 K1
  refine sq ?_; intro K2 hK2; refine sq ?_; intro K3 hK3; refine wp_region_lit ?_; refine xmv rfl ?_; refine xli rfl ?_; refine xeq rfl rfl ?_
  refine wpList_nil ?_; refine tn ?_; refine hK3 _ _ ?_; clear hK3 K3
  refine if_ rfl (fun h0 => ?_) (fun h0 => ?_)
  · have h0 : bs = [] := by simpa using h0
    refine sq ?_; intro K4 hK4; refine wp_region_lit ?_; refine xas rfl ?_; refine wpList_nil ?_; refine tn ?_; refine hK4 _ _ ?_; clear hK4 K4; refine wp_ret ?_
    refine tr ?_; clear hK2 K2
    refine hQ _ _ _ ?_; refine r1 rfl rfl H ?_
    exact ⟨by unfold hexOf; rw [if_pos h0]; rfl, rfl⟩
  · have h0 : bs ≠ [] := by simpa using h0
    refine wp_skip ?_; refine tn ?_; refine hK2 _ _ ?_; clear hK2 K2; refine sq ?_; intro K4 hK4; refine wp_region_lit ?_; refine xmv rfl ?_; refine xli rfl ?_
    refine xmli rfl rfl (wi64 (by omega)) ?_
    refine xmk (l := 0) (c := 2 * bs.length) H rfl rfl rfl rfl (by omega) (by omega) (by simp only [maxLen]; omega) ?_; intro b12 w H
    refine xas rfl ?_; refine wpList_nil ?_; refine tn ?_; refine hK4 _ _ ?_; clear hK4 K4; refine sq ?_; intro K5 hK5; refine sq ?_; intro K6 hK6
    refine wp_region_lit ?_; refine xmv rfl ?_; refine xli rfl ?_; refine xmv rfl ?_; refine wpList_nil ?_; refine tn ?_; refine hK6 _ _ ?_; clear hK6 K6
    refine wp_block ?_
    refine lp3 (α := Nat) (β := Option Addr) (γ := Nat) (fun k ao' cap' => [(3, .slice ao' (2 * k) cap'), (13, .slice ao bs.length cap), (14, .int .i64 bs.length), (15, .int .i64 k)]) (fun k ao' cap' => [own ao' cap' 5 1 (2 * k) (bv (hexs (bs.take k))), A]) (fun k ao' cap' => k ≤ bs.length) (fun k ao' cap' => bs.length - k) (0) (some ⟨b12, 0, none⟩) (2 * bs.length) ⟨rfl, rfl, rfl, rfl, True.intro⟩ (Nat.zero_le _) H ?_; intro k ao' cap' ρ w hI H K7 hK7
    refine sq ?_; intro K8 hK8; refine wp_region_lit ?_; refine xlt rfl rfl ?_; refine wpList_nil ?_; refine tn ?_; refine hK8 _ _ ?_; clear hK8 K8
    refine sq ?_; intro K9 hK9
    refine if_ rfl (fun h1 => ?_) (fun h1 => ?_)
    · have h1 : k < bs.length := by simp at h1; omega
      refine wp_skip ?_; refine tn ?_; refine hK9 _ _ ?_; clear hK9 K9; refine sq ?_; intro K10 hK10; refine wp_block ?_; refine sq ?_; intro K11 hK11
      refine wp_region_lit ?_
      have hg : bs[k]? = some bs[k] := List.getElem?_eq_getElem h1
      generalize bs[k] = c at hg
      refine xi1r hr (bv_get hg) h1 rfl rfl rfl ?_; intro b17 o17 hx17
      have hc := c.toNat_lt
      refine xld 1 H rfl rfl hx17 ?_
      refine xas rfl ?_; refine wpList_nil ?_; refine tn ?_; refine hK11 _ _ ?_; clear hK11 K11; refine wp_region_lit ?_; refine xmv rfl ?_; refine xmv rfl ?_
      refine xsr_u8 (s := 4) rfl rfl (by omega) ?_
      refine xc [] H ((c_sign (c.toNat >>> 4) (by rw [Nat.shiftRight_eq_div_pow]; omega))) rfl rfl rfl rfl rfl ?_; rintro _ _ w ⟨rfl, rfl⟩ H; replace H := H.ap rfl
      refine xmv rfl ?_
      refine xan_u8 (b := 15) rfl rfl (by omega) (by omega) ?_
      refine xc [] H ((c_sign (c.toNat &&& 15) (Nat.lt_of_le_of_lt Nat.and_le_right (by omega)))) rfl rfl rfl rfl rfl ?_; rintro _ _ w ⟨rfl, rfl⟩ H; replace H := H.ap rfl
      refine xbs H rfl rfl rfl (by simp [Value.cells] <;> rfl) rfl rfl ?_; intro b26 w H
      replace H := H.front 1 rfl
      refine xap 0 H rfl rfl rfl (src_at (news := bv [sgn (c.toNat >>> 4), sgn (c.toNat &&& 15)]) 1 H rfl (St.ownRd (H.perm (.swap _ _ _))) rfl) (bv_one _) (by omega) (by simp only [maxLen]; omega) ?_; intro ao27 cap27 w H hn27
      have e : bv (hexs (bs.take k)) ++ bv [sgn (c.toNat >>> 4), sgn (c.toNat &&& 15)] = bv (hexs (bs.take (k + 1))) := by
        rw [← bv_append, List.take_add_one, hg, hexs_app]; rfl
      rw [e] at H
      refine xas rfl ?_; refine wpList_nil ?_; refine bn ?_; refine tn ?_; refine hK10 _ _ ?_; clear hK10 K10; refine wp_region_lit ?_
      refine xadi rfl rfl (wi64 (by omega)) ?_
      refine xmv rfl ?_; refine wpList_nil ?_
      replace H := H.keeps [0, 1] rfl
      refine tn ?_; refine hK7 _ _ (k + 1) (ao27) (cap27) ⟨rfl, rfl, rfl, rfl, True.intro⟩ ?_ H ?_
      exact h1
      omega
    · have h1 : k = bs.length := by simp at h1; omega
      subst h1; rw [List.take_length] at H
      refine wp_exit ?_; refine te ?_; clear hK9 K9; refine te ?_; clear hK7 K7; refine be ?_; refine tn ?_; refine hK5 _ _ ?_; clear hK5 K5
      refine sq ?_; intro K10 hK10; refine wp_region_lit ?_; refine xmv rfl ?_
      refine xcb (bs := hexs bs) 0 H rfl rfl H.ownRd (hexs_len bs) ?_
      replace H := H.keeps [1] rfl
      refine xas rfl ?_; refine wpList_nil ?_; refine tn ?_; refine hK10 _ _ ?_; clear hK10 K10; refine wp_ret ?_; refine hQ _ _ _ ?_; refine r1 rfl rfl H ?_
      exact ⟨by unfold hexOf; rw [if_neg h0], rfl⟩
end Go.Proofs.YtegllbmkkfnajaaGreatDoor
end
section
namespace Go.Proofs.YtegllbmkkfnajaaGreatDoor
open Go Go.Proofs
attribute [local irreducible] Go.wpList Go.Code.wp St Fn mk
set_option maxRecDepth 20000
def hexl (r : Int) : Bool := decide (97 ≤ r) && decide (r ≤ 102)
def nib (r : Int) : Option Nat := if digit r = true then some (r - 48).toNat else if hexl r = true then some (r - 87).toNat else none
theorem c_nibble (r : Int) : Fn Tryz.prog 148 [.int .i32 r] [] (Ret fun v L => v = (match nib r with | some x => .tuple #[.int .u8 (x : Nat), .bool true] | none => .tuple #[.int .u8 0, .bool false]) ∧ L = []) := by
  refine Fn.intro Tryz.call148 Tryz.func148 rfl Tryz.ntmps148 rfl ?_; intro g w Q hQ H
  refine sq ?_; intro K1 hK1; refine wp_region_lit ?_; refine xas rfl ?_; refine xas rfl ?_; refine wpList_nil ?_; refine tn ?_; refine hK1 _ _ ?_; clear hK1 K1
  refine sq ?_; intro K2 hK2; refine wp_block ?_; refine sq ?_; intro K3 hK3; refine wp_region_lit ?_; refine xmv rfl ?_
  refine xc [] H ((c_digit r)) rfl rfl rfl rfl rfl ?_; rintro _ _ w ⟨rfl, rfl⟩ H; replace H := H.ap rfl
  refine xas rfl ?_; refine wpList_nil ?_; refine tn ?_; refine hK3 _ _ ?_; clear hK3 K3
  refine if_ rfl (fun h => ?_) (fun h => ?_)
  · have h' : 48 ≤ r ∧ r ≤ 57 := by unfold digit at h; simpa using h
    refine sq ?_; intro K4 hK4; refine wp_region_lit ?_; refine xmv rfl ?_
    refine xsbi rfl rfl (wi32 (by omega)) ?_
    refine xcvi rfl (wu8 (by omega)) ?_
    refine xas rfl ?_; refine xas rfl ?_; refine wpList_nil ?_; refine tn ?_; refine hK4 _ _ ?_; clear hK4 K4; refine wp_ret ?_; refine br ?_
    refine tr ?_; clear hK2 K2
    refine hQ _ _ _ ?_; refine r2 rfl rfl rfl H ?_
    refine ⟨?_, rfl⟩
    unfold nib; rw [if_pos h]
    show Value.tuple #[.int .u8 (r - 48), .bool true] = .tuple #[.int .u8 ((r - 48).toNat : Nat), .bool true]
    rw [Int.toNat_of_nonneg (by omega)]
  · refine sq ?_; intro K4 hK4; refine wp_region_lit ?_; refine xmv rfl ?_; refine xle rfl rfl ?_; refine xmv rfl ?_
    refine jand (b := ?b1) 3 13 [14, 15] 16 rfl rfl H (fun hhc1 hc1 => ?a1) (fun hhc1 hc1 => ?o1) ?_
    case a1 =>
      refine xgy rfl rfl rfl ?_; refine xmv rfl ?_; refine xgy rfl rfl rfl ?_; refine xle rfl rfl ?_; refine xpkt rfl rfl ?_; exact hc1 _ _ _ H
    case o1 =>
      refine xgn rfl rfl rfl ?_; refine xgn rfl rfl rfl ?_; refine xpkf rfl rfl ?_; exact hc1 _ _ _ H
    intro u14 u15 w H; refine xas rfl ?_; refine wpList_nil ?_; refine tn ?_; refine hK4 _ _ ?_; clear hK4 K4
    refine if_ rfl (fun h2 => ?_) (fun h2 => ?_)
    · have h' : 97 ≤ r ∧ r ≤ 102 := by simpa using h2
      refine sq ?_; intro K5 hK5; refine wp_region_lit ?_; refine xmv rfl ?_
      refine xsbi rfl rfl (wi32 (by omega)) ?_
      refine xcvi rfl (wu8 (by omega)) ?_
      refine xadi rfl rfl (wu8 (by omega)) ?_
      refine xas rfl ?_; refine xas rfl ?_; refine wpList_nil ?_; refine tn ?_; refine hK5 _ _ ?_; clear hK5 K5; refine wp_ret ?_; refine br ?_
      refine tr ?_; clear hK2 K2
      refine hQ _ _ _ ?_; refine r2 rfl rfl rfl H ?_
      refine ⟨?_, rfl⟩
      unfold nib; rw [if_neg (by rw [h]; decide), if_pos (by unfold hexl; exact h2)]
      show Value.tuple #[.int .u8 (r - 97 + 10), .bool true] = .tuple #[.int .u8 ((r - 87).toNat : Nat), .bool true]
      rw [Int.toNat_of_nonneg (by omega)]; congr 4 <;> omega
    · refine wp_skip ?_; refine bn ?_; refine tn ?_; refine hK2 _ _ ?_; clear hK2 K2; refine sq ?_; intro K5 hK5; refine wp_region_lit ?_; refine xas rfl ?_
      refine xas rfl ?_; refine wpList_nil ?_; refine tn ?_; refine hK5 _ _ ?_; clear hK5 K5; refine wp_ret ?_
      refine hQ _ _ _ ?_; refine r2 rfl rfl rfl H ?_
      refine ⟨?_, rfl⟩
      unfold nib; rw [if_neg (by rw [h]; decide), if_neg (by unfold hexl; rw [h2]; decide)]
theorem c_nibble_some {r : Int} {x : Nat} (h : nib r = some x) : Fn Tryz.prog 148 [.int .i32 r] [] (Ret fun v L => v = .tuple #[.int .u8 (x : Nat), .bool true] ∧ L = []) := by
  have := c_nibble r; rw [h] at this; exact this
theorem c_nibble_none {r : Int} (h : nib r = none) : Fn Tryz.prog 148 [.int .i32 r] [] (Ret fun v L => v = .tuple #[.int .u8 0, .bool false] ∧ L = []) := by
  have := c_nibble r; rw [h] at this; exact this
theorem nib_lt {r : Int} {x : Nat} (h : nib r = some x) : x < 16 ∧ r < 128 := by
  unfold nib at h
  split at h
  · rename_i hd; unfold digit at hd; simp at hd h; omega
  · split at h
    · rename_i hd; unfold hexl at hd; simp at hd h; omega
    · cases h
def unhexGo : Nat → List UInt8 → List UInt8 → Option (List UInt8)
  | _, [], out => some out
  | i, c :: cs, out => match nib c.toNat with
    | some x => unhexGo (i + 1) cs (out.set (i / 2) (UInt8.ofNat (((out[i / 2]?.getD 0).toNat <<< 4 % 256) ||| x)))
    | none => none
def unhex (bs : List UInt8) : Option (List UInt8) :=
  if bs = [45] then some [] else if bs = [] ∨ bs.length % 2 ≠ 0 then none else unhexGo 0 bs (List.replicate (bs.length / 2) 0)
theorem unhexGo_len : ∀ (bs : List UInt8) (i : Nat) (out r : List UInt8), unhexGo i bs out = some r → r.length = out.length
  | [], i, out, r, h => by simp [unhexGo] at h; subst h; rfl
  | c :: cs, i, out, r, h => by
    simp only [unhexGo] at h
    split at h
    · have := unhexGo_len cs _ _ _ h; simpa using this
    · cases h
theorem rep_bv (k : Nat) : repV [.int .u8 0] k = bv (List.replicate k 0) := by
  induction k with
  | zero => rfl
  | succ k ih => rw [List.replicate_succ]; simp only [repV, ih]; rfl
def bytesR (A : List Asn) (r : Option (List UInt8)) (v : Value) (L : List Asn) : Prop :=
  match r with
  | some bs => ∃ ao cap, v = .tuple #[.slice ao bs.length cap, .int .i64 0] ∧ L = own ao cap 5 1 bs.length (bv bs) :: A
  | none => v = .tuple #[.slice none 0 0, .int .i64 2] ∧ L = A
theorem c_bytes (bs : List UInt8) (hl : bs.length ≤ 16777216) : Fn Tryz.prog 127 [.string (str bs)] [] (Ret (bytesR [] (unhex bs))) := by
  refine Fn.intro Tryz.call127 Tryz.func127 rfl Tryz.ntmps127 rfl ?_; intro g w Q hQ H
  refine sq ?_; intro K1 hK1; refine wp_region_lit ?_; refine xas rfl ?_; refine xas rfl ?_; refine wpList_nil ?_; refine tn ?_; refine hK1 _ _ ?_; clear hK1 K1
  refine sq ?_; intro K2 hK2; refine sq ?_; intro K3 hK3; refine wp_region_lit ?_; refine xmv rfl ?_
  refine xseqS rfl rfl ?_
  refine wpList_nil ?_; refine tn ?_; refine hK3 _ _ ?_; clear hK3 K3
  refine if_ rfl (fun h0 => ?_) (fun h0 => ?_)
  · have h0 : bs = [45] := by simpa using h0
    refine sq ?_; intro K4 hK4; refine wp_region_lit ?_; refine xas rfl ?_; refine xas rfl ?_; refine wpList_nil ?_; refine tn ?_; refine hK4 _ _ ?_; clear hK4 K4
    refine wp_ret ?_; refine tr ?_; clear hK2 K2
    replace H := H.ownNil 5 1
    refine hQ _ _ _ ?_; refine r2 rfl rfl rfl H ?_
    unfold unhex; rw [if_pos h0]; exact ⟨none, 0, rfl, rfl⟩
  · have h0 : bs ≠ [45] := by intro e; subst e; simp at h0
    refine wp_skip ?_; refine tn ?_; refine hK2 _ _ ?_; clear hK2 K2; refine sq ?_; intro K4 hK4; refine sq ?_; intro K5 hK5; refine wp_region_lit ?_
    refine xmv rfl ?_
    refine xseqS rfl rfl ?_
    refine xmv rfl ?_; refine jor (b := ?b1) 5 13 [14, 15, 16, 17] 18 rfl rfl H (fun hhc1 hc1 => ?a1) (fun hhc1 hc1 => ?o1) ?_
    case a1 =>
      refine xgy rfl rfl rfl ?_; refine xmv rfl ?_; refine xgy rfl rfl rfl ?_
      refine xlsS rfl ?_
      refine xgy rfl rfl rfl ?_
      refine xrn_i64 (b := 2) rfl rfl (by omega) ?_
      refine xgy rfl rfl rfl ?_; refine xne rfl rfl ?_; refine xpkf rfl rfl ?_; exact hc1 _ _ _ _ _ H
    case o1 =>
      refine xgn rfl rfl rfl ?_; refine xgn rfl rfl rfl ?_; refine xgn rfl rfl rfl ?_; refine xgn rfl rfl rfl ?_; refine xpkt rfl rfl ?_; exact hc1 _ _ _ _ _ H
    intro u14 u15 u16 u17 w H; refine wpList_nil ?_; refine tn ?_; refine hK5 _ _ ?_; clear hK5 K5
    refine if_ rfl (fun h1 => ?_) (fun h1 => ?_)
    · refine sq ?_; intro K6 hK6; refine wp_region_lit ?_; refine xas rfl ?_; refine xas rfl ?_; refine wpList_nil ?_; refine tn ?_; refine hK6 _ _ ?_; clear hK6 K6
      refine wp_ret ?_; refine tr ?_; clear hK4 K4
      refine hQ _ _ _ ?_; refine r2 rfl rfl rfl H ?_
      unfold unhex; rw [if_neg h0, if_pos]
      exact ⟨rfl, rfl⟩
      simp at h1; rcases h1 with h1 | h1
      · exact .inl h1
      · right; intro h2; apply h1; omega
    · have h1 : ¬ (bs = [] ∨ bs.length % 2 ≠ 0) := by
        simp at h1; intro h2; rcases h2 with h2 | h2
        · exact h1.1 h2
        · exact h2 (by have := h1.2; omega)
      refine wp_skip ?_; refine tn ?_; refine hK4 _ _ ?_; clear hK4 K4; refine sq ?_; intro K6 hK6; refine wp_region_lit ?_; refine xmv rfl ?_
      refine xlsS rfl ?_
      refine xqn_i64 (b := 2) rfl rfl (by omega) (by omega) ?_
      refine xmk (l := bs.length / 2) (c := bs.length / 2) H rfl rfl rfl rfl (by omega) (by omega) (by simp only [maxLen]; omega) ?_; intro b22 w H
      rw [rep_bv] at H
      refine xas rfl ?_; refine wpList_nil ?_; refine tn ?_; refine hK6 _ _ ?_; clear hK6 K6; refine sq ?_; intro K7 hK7; refine sq ?_; intro K8 hK8
      refine wp_region_lit ?_; refine xmv rfl ?_; refine xrs H rfl ?_; intro it24 w H; refine wpList_nil ?_; refine tn ?_; refine hK8 _ _ ?_; clear hK8 K8
      refine wp_block ?_
      refine lp2 (α := Nat) (β := List UInt8) (fun k out => [(4, .slice (some ⟨b22, 0, none⟩) (bs.length / 2) (bs.length / 2)), (24, .pointer (some ⟨it24, 0, none⟩))]) (fun k out => [obj it24 (.stringIter (str bs) k), own (some ⟨b22, 0, none⟩) (bs.length / 2) 5 1 (bs.length / 2) (bv out)]) (fun k out => k ≤ bs.length ∧ out.length = bs.length / 2 ∧ unhex bs = unhexGo k (bs.drop k) out) (fun k out => bs.length - k) (0) (List.replicate (bs.length / 2) 0) ⟨rfl, rfl, True.intro⟩ (⟨Nat.zero_le _, List.length_replicate, by unfold unhex; rw [if_neg h0, if_neg h1]; rfl⟩) H ?_; intro k out ρ w hI H K9 hK9
      obtain ⟨hk, hol, hgo⟩ := hI
      have h1' : bs.length % 2 = 0 := by
        rcases Nat.mod_two_eq_zero_or_one bs.length with h | h
        · exact h
        · exact absurd (.inr (by omega)) h1
      refine sq ?_; intro K10 hK10; refine wp_region_lit ?_
      rcases Nat.lt_or_ge k bs.length with hlt | hlt
      · obtain ⟨c, r, wd, hc, hd, hlow, hhigh⟩ := dec_any hlt
        have hdr : bs.drop k = c :: bs.drop (k + 1) := by
          rw [List.drop_eq_getElem_cons hlt]; congr 1
          rw [List.getElem?_eq_getElem hlt] at hc; exact Option.some.inj hc
        rw [hdr] at hgo; simp only [unhexGo] at hgo
        refine xns 0 H rfl rfl hlt hd ?_; intro w H
        refine xex rfl rfl ?_; refine wpList_nil ?_; refine tn ?_; refine hK10 _ _ ?_; clear hK10 K10; refine sq ?_; intro K11 hK11; refine ift rfl ?_; refine wp_skip ?_
        refine tn ?_; refine hK11 _ _ ?_; clear hK11 K11; refine wp_block ?_; refine sq ?_; intro K12 hK12; refine wp_region_lit ?_; refine xex rfl rfl ?_
        refine xex rfl rfl ?_; refine xas rfl ?_; refine xas rfl ?_; refine wpList_nil ?_; refine tn ?_; refine hK12 _ _ ?_; clear hK12 K12; refine sq ?_; intro K13 hK13
        refine wp_region_lit ?_; refine xmv rfl ?_
        rcases hn : nib r with _ | x
        · refine xc [] H ((c_nibble_none hn)) rfl rfl rfl rfl rfl ?_; rintro _ _ w ⟨rfl, rfl⟩ H; replace H := H.ap rfl
          refine xmv rfl ?_; refine xex rfl rfl ?_; refine xex rfl rfl ?_; refine xas rfl ?_; refine xas rfl ?_; refine wpList_nil ?_
          refine tn ?_; refine hK13 _ _ ?_; clear hK13 K13; refine sq ?_; intro K14 hK14; refine sq ?_; intro K15 hK15; refine wp_region_lit ?_; refine xmv rfl ?_
          refine xnt rfl ?_; refine wpList_nil ?_; refine tn ?_; refine hK15 _ _ ?_; clear hK15 K15; refine ift rfl ?_; refine sq ?_; intro K16 hK16
          refine wp_region_lit ?_; refine xas rfl ?_; refine xas rfl ?_; refine wpList_nil ?_; refine tn ?_; refine hK16 _ _ ?_; clear hK16 K16; refine wp_ret ?_
          refine tr ?_; clear hK14 K14; refine br ?_; refine tr ?_; clear hK9 K9; refine br ?_; refine tr ?_; clear hK7 K7
          replace H := H.keeps [] rfl
          refine hQ _ _ _ ?_; refine r2 rfl rfl rfl H ?_
          have hcn : nib c.toNat = none := by
            rcases Nat.lt_or_ge c.toNat 128 with h | h
            · rw [← (hlow h).1]; exact hn
            · cases hcx : nib c.toNat with
              | none => rfl
              | some y => have := (nib_lt hcx).2; omega
          rw [hcn] at hgo; simp only at hgo; rw [hgo]
          exact ⟨rfl, rfl⟩
        · obtain ⟨hx16, hr128⟩ := nib_lt hn
          have hlt2 : c.toNat < 128 := by
            rcases Nat.lt_or_ge c.toNat 128 with h | h
            · exact h
            · have := hhigh h; omega
          obtain ⟨rfl, rfl⟩ := hlow hlt2
          rw [hn] at hgo; simp only at hgo
          refine xc [] H ((c_nibble_some hn)) rfl rfl rfl rfl rfl ?_; rintro _ _ w ⟨rfl, rfl⟩ H; replace H := H.ap rfl
          refine xmv rfl ?_; refine xex rfl rfl ?_; refine xex rfl rfl ?_; refine xas rfl ?_; refine xas rfl ?_; refine wpList_nil ?_
          refine tn ?_; refine hK13 _ _ ?_; clear hK13 K13; refine sq ?_; intro K14 hK14; refine sq ?_; intro K15 hK15; refine wp_region_lit ?_; refine xmv rfl ?_
          refine xnt rfl ?_; refine wpList_nil ?_; refine tn ?_; refine hK15 _ _ ?_; clear hK15 K15; refine iff_ rfl ?_; refine wp_skip ?_
          refine tn ?_; refine hK14 _ _ ?_; clear hK14 K14; refine wp_region_lit ?_; refine xmv rfl ?_; refine xmv rfl ?_
          refine xqn_i64 (b := 2) rfl rfl (by omega) (by omega) ?_
          refine xmv rfl ?_; refine xmv rfl ?_
          refine xqn_i64 (b := 2) rfl rfl (by omega) (by omega) ?_
          have hk2 : k / 2 < out.length := by omega
          have hget : out[k / 2]? = some out[k / 2] := List.getElem?_eq_getElem hk2
          have hb8 := (out[k / 2]).toNat_lt
          rw [hget] at hgo
          refine xio 1 H rfl (by omega) (by omega) rfl rfl rfl ?_; intro b42 o42 ha42
          refine xld 1 H rfl rfl (own_get ha42 (by simp) (bv_get hget)) ?_
          refine xsl_u8 (s := 4) rfl rfl ?_
          refine xmv rfl ?_
          refine xor_u8 rfl rfl (by omega) (by omega) ?_
          have hor : ((out[k / 2]).toNat <<< 4 % 256) ||| x < 256 := Nat.or_lt_two_pow (n := 8) (Nat.mod_lt _ (by decide)) (by omega)
          refine xio 1 H rfl (by omega) (by omega) rfl rfl rfl ?_; intro b47 o47 ha47
          refine xso 1 (k / 2) H ha47 (by simp) (by simpa using hk2) rfl rfl rfl rfl ?_; intro w H
          have eq : (bv out).set (k / 2) (.int .u8 ((((out[k / 2]).toNat <<< 4 % 256) ||| x : Nat) : Int)) = bv (out.set (k / 2) (UInt8.ofNat (((out[k / 2]).toNat <<< 4 % 256) ||| x))) := by
            unfold bv; rw [List.map_set, UInt8.toNat_ofNat_of_lt' hor]
          rw [eq] at H
          refine wpList_nil ?_; refine bn ?_
          replace H := H.front 1 rfl
          refine tn ?_; refine hK9 _ _ (k + 1) (out.set (k / 2) (UInt8.ofNat (((out[k / 2]).toNat <<< 4 % 256) ||| x))) ⟨rfl, rfl, True.intro⟩ ?_ H ?_
          exact ⟨hlt, by simpa using hol, hgo⟩
          omega
      · refine xnz 0 H rfl rfl hlt ?_
        refine xex rfl rfl ?_; refine wpList_nil ?_; refine tn ?_; refine hK10 _ _ ?_; clear hK10 K10; refine sq ?_; intro K11 hK11; refine iff_ rfl ?_
        refine wp_exit ?_; refine te ?_; clear hK11 K11; refine te ?_; clear hK9 K9; refine be ?_; refine tn ?_; refine hK7 _ _ ?_; clear hK7 K7
        refine sq ?_; intro K12 hK12; refine wp_region_lit ?_; refine xmv rfl ?_; refine xas rfl ?_; refine xas rfl ?_; refine wpList_nil ?_
        refine tn ?_; refine hK12 _ _ ?_; clear hK12 K12; refine wp_ret ?_
        replace H := H.keeps [1] rfl
        refine hQ _ _ _ ?_; refine r2 rfl rfl rfl H ?_
        have : k = bs.length := by omega
        subst this
        rw [hgo, List.drop_length]
        exact ⟨_, _, by simp only [unhexGo, hol]; rfl, by simp only [hol]⟩
end Go.Proofs.YtegllbmkkfnajaaGreatDoor
end
section
namespace Go.Proofs.YtegllbmkkfnajaaGreatDoor
open Go Go.Proofs
attribute [local irreducible] Go.wpList Go.Code.wp St Fn mk
set_option maxRecDepth 20000
def known (x : Int) : Bool := (((x == 1) || (x == 2)) || (x == 4)) || (x == 8)
theorem c_oknown (x : Int) : Fn Tryz.prog 120 [.int .i64 x] [] (Ret fun v L => v = .bool (known x) ∧ L = []) := by
  refine Fn.intro Tryz.call120 Tryz.func120 rfl Tryz.ntmps120 rfl ?_; intro g w Q hQ H
  refine sq ?_; intro K1 hK1; refine wp_region_lit ?_; refine xas rfl ?_; refine wpList_nil ?_; refine tn ?_; refine hK1 _ _ ?_; clear hK1 K1
  refine sq ?_; intro K2 hK2; refine wp_region_lit ?_; refine xmv rfl ?_; refine xeq rfl rfl ?_; refine xmv rfl ?_
  refine jor (b := ?b1) 3 5 [6, 7] 8 rfl rfl H (fun hhc1 hc1 => ?a1) (fun hhc1 hc1 => ?o1) ?_
  case a1 =>
    refine xgy rfl rfl rfl ?_; refine xmv rfl ?_; refine xgy rfl rfl rfl ?_; refine xeq rfl rfl ?_; refine xpkf rfl rfl ?_; exact hc1 _ _ _ H
  case o1 =>
    refine xgn rfl rfl rfl ?_; refine xgn rfl rfl rfl ?_; refine xpkt rfl rfl ?_; exact hc1 _ _ _ H
  intro u6 u7 w H; refine xmv rfl ?_; refine jor (b := ?b2) 3 9 [10, 11] 12 rfl rfl H (fun hhc2 hc2 => ?a2) (fun hhc2 hc2 => ?o2) ?_
  case a2 =>
    refine xgy rfl rfl rfl ?_; refine xmv rfl ?_; refine xgy rfl rfl rfl ?_; refine xeq rfl rfl ?_; refine xpkf rfl rfl ?_; exact hc2 _ _ _ H
  case o2 =>
    refine xgn rfl rfl rfl ?_; refine xgn rfl rfl rfl ?_; refine xpkt rfl rfl ?_; exact hc2 _ _ _ H
  intro u10 u11 w H; refine xmv rfl ?_; refine jor (b := ?b3) 3 13 [14, 15] 16 rfl rfl H (fun hhc3 hc3 => ?a3) (fun hhc3 hc3 => ?o3) ?_
  case a3 =>
    refine xgy rfl rfl rfl ?_; refine xmv rfl ?_; refine xgy rfl rfl rfl ?_; refine xeq rfl rfl ?_; refine xpkf rfl rfl ?_; exact hc3 _ _ _ H
  case o3 =>
    refine xgn rfl rfl rfl ?_; refine xgn rfl rfl rfl ?_; refine xpkt rfl rfl ?_; exact hc3 _ _ _ H
  intro u14 u15 w H; refine xas rfl ?_; refine wpList_nil ?_; refine tn ?_; refine hK2 _ _ ?_; clear hK2 K2; refine wp_ret ?_
  refine hQ _ _ _ ?_; refine r1 rfl rfl H ?_
  exact ⟨rfl, rfl⟩
def curV (ao : Option Addr) (len cap at_ : Nat) (err : Int) : List Value := [.slice ao len cap, .int .i64 at_, .int .i64 err]
abbrev curT : Nat := 171
theorem c_take (p : Nat) (ao : Option Addr) (len cap at_ : Nat) (err : Int) (k : Nat) (hlen : len ≤ 1099511627776) (hat : at_ ≤ len) (hk : k ≤ 1099511627776) (hcap : len ≤ cap) :
    Fn Tryz.prog 121 [.pointer (some ⟨p, 0, none⟩), .int .i64 k] [blk p (curV ao len cap at_ err) curT]
      (Ret fun v L => if err ≠ 0 then v = .slice none 0 0 ∧ L = [blk p (curV ao len cap at_ err) curT]
        else if len - at_ < k then v = .slice none 0 0 ∧ L = [blk p (curV ao len cap at_ 1) curT]
        else v = .slice (subA ao cap at_ 1) k (cap - at_) ∧ L = [blk p (curV ao len cap (at_ + k) err) curT]) := by
  unfold curV
  refine Fn.intro Tryz.call121 Tryz.func121 rfl Tryz.ntmps121 rfl ?_; intro g w Q hQ H
  refine sq ?_; intro K1 hK1; refine wp_region_lit ?_; refine xas rfl ?_; refine wpList_nil ?_; refine tn ?_; refine hK1 _ _ ?_; clear hK1 K1
  refine sq ?_; intro K2 hK2; refine sq ?_; intro K3 hK3; refine wp_region_lit ?_; refine xmv rfl ?_; refine xpns rfl rfl ?_; refine xmv rfl ?_
  refine xgy rfl rfl rfl ?_; refine xmv rfl ?_; refine xgy rfl rfl rfl ?_
  refine xnc rfl ?_
  refine xgy rfl rfl rfl ?_; refine xfa rfl ?_; refine xgy rfl rfl rfl ?_
  refine xldb 0 H rfl rfl rfl ?_
  refine xgy rfl rfl rfl ?_; refine xne rfl rfl ?_; refine xpkf rfl rfl ?_; refine wpList_nil ?_; refine tn ?_; refine hK3 _ _ ?_; clear hK3 K3
  refine if_ rfl (fun h0 => ?_) (fun h0 => ?_)
  · refine sq ?_; intro K4 hK4; refine wp_region_lit ?_; refine xas rfl ?_; refine wpList_nil ?_; refine tn ?_; refine hK4 _ _ ?_; clear hK4 K4; refine wp_ret ?_
    refine tr ?_; clear hK2 K2
    refine hQ _ _ _ ?_; refine r1 rfl rfl H ?_
    rw [if_pos (by simpa using h0)]; exact ⟨rfl, rfl⟩
  · have h0 : err = 0 := by simpa using h0
    refine wp_skip ?_; refine tn ?_; refine hK2 _ _ ?_; clear hK2 K2; refine sq ?_; intro K4 hK4; refine sq ?_; intro K5 hK5
    refine drws (m := 12) 100000 rfl rfl H ?_; clear H; intro w H; refine dt' 0 rfl (by kernel_rfl) H (ymv rfl) ?_; refine dt' 1 rfl (by kernel_rfl) H (ymv rfl) ?_
    refine dt' 2 rfl (by kernel_rfl) H (ync rfl) ?_
    refine dt' 3 rfl (by kernel_rfl) H (yfa rfl) ?_
    refine dt 4 rfl (by kernel_rfl) H (zldb 0 rfl rfl rfl) ?_
    refine dt' 5 rfl (by kernel_rfl) H (yli rfl) ?_; refine dt' 6 rfl (by kernel_rfl) H (ymv rfl) ?_
    refine dt' 7 rfl (by kernel_rfl) H (ync rfl) ?_
    refine dt' 8 rfl (by kernel_rfl) H (yfa rfl) ?_
    refine dt 9 rfl (by kernel_rfl) H (zldb 0 rfl rfl rfl) ?_
    refine dt' 10 rfl (by kernel_rfl) H (ysbi rfl rfl (wi64 (by omega))) ?_
    refine dt' 11 rfl (by kernel_rfl) H (ygt rfl rfl) ?_; refine dd (by kernel_rfl) ?_; refine tn ?_; refine hK5 _ _ ?_; clear hK5 K5
    refine if_ rfl (fun h1 => ?_) (fun h1 => ?_)
    · have h1 : len - at_ < k := by simp at h1; omega
      refine sq ?_; intro K6 hK6; refine wp_region_lit ?_; refine xmv rfl ?_
      refine xnc rfl ?_
      refine xfa rfl ?_
      (refine xst 0 H rfl rfl rfl rfl rfl ?_; intro w H)
      refine wpList_nil ?_; refine tn ?_; refine hK6 _ _ ?_; clear hK6 K6; refine sq ?_; intro K7 hK7; refine wp_region_lit ?_; refine xas rfl ?_; refine wpList_nil ?_
      refine tn ?_; refine hK7 _ _ ?_; clear hK7 K7; refine wp_ret ?_; refine tr ?_; clear hK4 K4
      refine hQ _ _ _ ?_; refine r1 rfl rfl H ?_
      rw [if_neg (by simpa using h0), if_pos h1]; exact ⟨rfl, rfl⟩
    · have h1 : ¬ len - at_ < k := by simp at h1; omega
      refine wp_skip ?_; refine tn ?_; refine hK4 _ _ ?_; clear hK4 K4; refine sq ?_; intro K6 hK6; refine drws (m := 16) 100000 rfl rfl H ?_; clear H; intro w H
      refine dt' 0 rfl (by kernel_rfl) H (ymv rfl) ?_
      refine dt' 1 rfl (by kernel_rfl) H (ync rfl) ?_
      refine dt' 2 rfl (by kernel_rfl) H (yfa rfl) ?_
      refine dt 3 rfl (by kernel_rfl) H (zldb 0 rfl rfl rfl) ?_
      refine dt' 4 rfl (by kernel_rfl) H (ymv rfl) ?_
      refine dt' 5 rfl (by kernel_rfl) H (ync rfl) ?_
      refine dt' 6 rfl (by kernel_rfl) H (yfa rfl) ?_
      refine dt 7 rfl (by kernel_rfl) H (zldb 0 rfl rfl rfl) ?_
      refine dt' 8 rfl (by kernel_rfl) H (ymv rfl) ?_
      refine dt' 9 rfl (by kernel_rfl) H (ync rfl) ?_
      refine dt' 10 rfl (by kernel_rfl) H (yfa rfl) ?_
      refine dt 11 rfl (by kernel_rfl) H (zldb 0 rfl rfl rfl) ?_
      refine dt' 12 rfl (by kernel_rfl) H (ymv rfl) ?_
      refine dt' 13 rfl (by kernel_rfl) H (yadi rfl rfl (wi64 (by omega))) ?_
      refine do1 14 rfl (by kernel_rfl) ?_; intro K7 hK7
      have e : ((at_ : Int) + k) = ((at_ + k : Nat) : Int) := by omega
      refine xsl2 (l := at_) (h := at_ + k) rfl rfl rfl rfl e (by omega) (by omega) ?_
      refine wpList_nil ?_; refine tn ?_; refine hK7 _ _ (fun _ => H) ?_; clear hK7 K7; refine dt' 15 rfl (by kernel_rfl) H (yas rfl) ?_; refine dd (by kernel_rfl) ?_
      refine tn ?_; refine hK6 _ _ ?_; clear hK6 K6; refine sq ?_; intro K8 hK8; refine wp_region_lit ?_; refine xmv rfl ?_
      refine xnc rfl ?_
      refine xfa rfl ?_
      refine xldb 0 H rfl rfl rfl ?_
      refine xmv rfl ?_
      refine xadi rfl rfl (wi64 (by omega)) ?_
      refine xnc rfl ?_
      refine xfa rfl ?_
      (refine xst 0 H rfl rfl rfl rfl rfl ?_; intro w H)
      refine wpList_nil ?_; refine tn ?_; refine hK8 _ _ ?_; clear hK8 K8; refine sq ?_; intro K9 hK9; refine wp_region_lit ?_; refine xmv rfl ?_; refine xas rfl ?_
      refine wpList_nil ?_; refine tn ?_; refine hK9 _ _ ?_; clear hK9 K9; refine wp_ret ?_
      rw [e] at H
      refine hQ _ _ _ ?_; refine r1 rfl rfl H ?_
      rw [if_neg (by simpa using h0), if_neg h1]
      exact ⟨by rw [Nat.add_sub_cancel_left], rfl⟩
theorem take_err (p : Nat) (ao : Option Addr) (len cap at_ : Nat) (err : Int) (k : Nat) (hlen : len ≤ 1099511627776) (hat : at_ ≤ len) (hk : k ≤ 1099511627776) (hcap : len ≤ cap) (h : err ≠ 0) :
    Fn Tryz.prog 121 [.pointer (some ⟨p, 0, none⟩), .int .i64 k] [blk p (curV ao len cap at_ err) curT] (Ret fun v L => v = .slice none 0 0 ∧ L = [blk p (curV ao len cap at_ err) curT]) := by
  have := c_take p ao len cap at_ err k hlen hat hk hcap; simp only [if_pos h] at this; exact this
theorem take_short (p : Nat) (ao : Option Addr) (len cap at_ : Nat) (k : Nat) (hlen : len ≤ 1099511627776) (hat : at_ ≤ len) (hk : k ≤ 1099511627776) (hcap : len ≤ cap) (h : len - at_ < k) :
    Fn Tryz.prog 121 [.pointer (some ⟨p, 0, none⟩), .int .i64 k] [blk p (curV ao len cap at_ 0) curT] (Ret fun v L => v = .slice none 0 0 ∧ L = [blk p (curV ao len cap at_ 1) curT]) := by
  have := c_take p ao len cap at_ 0 k hlen hat hk hcap; simp only [ne_eq, not_true_eq_false, if_false, if_pos h] at this; exact this
theorem take_ok (p : Nat) (ao : Option Addr) (len cap at_ : Nat) (k : Nat) (hlen : len ≤ 1099511627776) (hat : at_ ≤ len) (hk : k ≤ 1099511627776) (hcap : len ≤ cap) (h : ¬ len - at_ < k) :
    Fn Tryz.prog 121 [.pointer (some ⟨p, 0, none⟩), .int .i64 k] [blk p (curV ao len cap at_ 0) curT] (Ret fun v L => v = .slice (subA ao cap at_ 1) k (cap - at_) ∧ L = [blk p (curV ao len cap (at_ + k) 0) curT]) := by
  have := c_take p ao len cap at_ 0 k hlen hat hk hcap; simp only [ne_eq, not_true_eq_false, if_false, if_neg h] at this; exact this
end Go.Proofs.YtegllbmkkfnajaaGreatDoor
end
section
namespace Go.Proofs.YtegllbmkkfnajaaGreatDoor
open Go Go.Proofs
attribute [local irreducible] Go.wpList Go.Code.wp St Fn mk
set_option maxRecDepth 20000
def curs (p : Nat) (bs : List UInt8) (at_ : Nat) (err : Int) : Asn :=
  exa fun q : Option Addr × Nat => pak [fct (bs.length ≤ q.2), blk p (curV q.1 bs.length q.2 at_ err) curT, own q.1 q.2 5 1 bs.length (bv bs)]
theorem St.uncurs {g : Gh} {w : World} {L : List Asn} {p at_ : Nat} {bs : List UInt8} {err : Int} (H : St g w (curs p bs at_ err :: L)) :
    ∃ ao cap, bs.length ≤ cap ∧ St g w (blk p (curV ao bs.length cap at_ err) curT :: own ao cap 5 1 bs.length (bv bs) :: L) := by
  obtain ⟨⟨ao, cap⟩, H⟩ := H.unexa
  obtain ⟨h, H⟩ := (show St g w (fct (bs.length ≤ cap) :: blk p (curV ao bs.length cap at_ err) curT :: own ao cap 5 1 bs.length (bv bs) :: L) from H.unpak).unfct
  exact ⟨ao, cap, h, H⟩
theorem St.curs {g : Gh} {w : World} {L : List Asn} {p at_ cap : Nat} {ao : Option Addr} {bs : List UInt8} {err : Int} (hc : bs.length ≤ cap) (H : St g w (blk p (curV ao bs.length cap at_ err) curT :: own ao cap 5 1 bs.length (bv bs) :: L)) : St g w (curs p bs at_ err :: L) :=
  St.toexa (A := fun q : Option Addr × Nat => pak [fct (bs.length ≤ q.2), blk p (curV q.1 bs.length q.2 at_ err) curT, own q.1 q.2 5 1 bs.length (bv bs)]) (ao, cap) (St.topak (M := [fct (bs.length ≤ cap), blk p (curV ao bs.length cap at_ err) curT, own ao cap 5 1 bs.length (bv bs)]) (H.tofct hc))
def le : List UInt8 → Nat
  | [] => 0
  | b :: l => b.toNat + 256 * le l
theorem le_lt : ∀ l : List UInt8, le l < 256 ^ l.length
  | [] => by simp [le]
  | b :: l => by
    have h := le_lt l
    have hb := b.toNat_lt
    simp only [le, List.length_cons, Nat.pow_succ]
    omega
theorem orStep {m c j j' : Nat} (hj : j' = j + 8) (hc : c < 256) (hm : (m * 256 + c) * 2 ^ j < 18446744073709551616) :
    bitsI .or .u64 ((m * 2 ^ j' : Nat) : Int) ((c <<< j % 18446744073709551616 : Nat) : Int) = (((m * 256 + c) * 2 ^ j : Nat) : Int) := by
  subst hj
  have e1 : m * 2 ^ (j + 8) = 2 ^ j * (256 * m) := by rw [Nat.pow_add]; show m * (2 ^ j * 256) = _; rw [← Nat.mul_assoc, Nat.mul_comm m, Nat.mul_assoc, Nat.mul_comm m]
  have e2 : (m * 256 + c) * 2 ^ j = 2 ^ (j + 8) * m + c * 2 ^ j := by rw [Nat.add_mul, Nat.pow_add]; show m * 256 * 2 ^ j + _ = 2 ^ j * 256 * m + _; rw [Nat.mul_assoc, Nat.mul_comm m, Nat.mul_comm 256]
  have e3 : c * 2 ^ j < 2 ^ (j + 8) := by rw [Nat.pow_add, Nat.mul_comm (2 ^ j)]; exact Nat.mul_lt_mul_of_pos_right hc (Nat.two_pow_pos j)
  have e4 : c <<< j % 18446744073709551616 = c * 2 ^ j := by rw [Nat.shiftLeft_eq]; exact Nat.mod_eq_of_lt (by omega)
  rw [e4, orN (k := .u64) rfl (by show _ < 18446744073709551616; rw [Nat.mul_comm]; omega) (by show _ < 18446744073709551616; omega), e2, Nat.two_pow_add_eq_or_of_lt e3, Nat.mul_comm m]
theorem orLast {m c : Nat} (hc : c < 256) (hm : m * 256 + c < 18446744073709551616) : bitsI .or .u64 ((m * 2 ^ 8 : Nat) : Int) ((c : Nat) : Int) = ((m * 256 + c : Nat) : Int) := by
  have := orStep (m := m) (c := c) (j := 0) rfl hc (by simpa using hm)
  simp only [Nat.shiftLeft_zero, Nat.pow_zero, Nat.mul_one] at this
  rw [Nat.mod_eq_of_lt (by omega)] at this
  exact this
theorem len1 {l : List UInt8} (h : l.length = 1) : ∃ a, l = [a] := by
  match l, h with
  | [a], _ => exact ⟨a, rfl⟩
theorem len2 {l : List UInt8} (h : l.length = 2) : ∃ a b, l = [a, b] := by
  match l, h with
  | [a, b], _ => exact ⟨a, b, rfl⟩
theorem len4 {l : List UInt8} (h : l.length = 4) : ∃ a b c d, l = [a, b, c, d] := by
  match l, h with
  | [a, b, c, d], _ => exact ⟨a, b, c, d, rfl⟩
theorem len8 {l : List UInt8} (h : l.length = 8) : ∃ a b c d e f g i, l = [a, b, c, d, e, f, g, i] := by
  match l, h with
  | [a, b, c, d, e, f, g, i], _ => exact ⟨a, b, c, d, e, f, g, i, rfl⟩
def ctake (bs : List UInt8) (at_ : Nat) (err : Int) (k : Nat) : List UInt8 × Nat × Int :=
  if err ≠ 0 then ([], at_, err) else if bs.length - at_ < k then ([], at_, 1) else ((bs.drop at_).take k, at_ + k, 0)
theorem take_own {g : Gh} {w : World} {L : List Asn} {p at_ at2 cap : Nat} {ao : Option Addr} {bs : List UInt8} {err : Int} {k : Nat} (hat : at_ ≤ bs.length) (hk : ¬ bs.length - at_ < k) (H : St g w (blk p (curV ao bs.length cap at2 err) curT :: own ao cap 5 1 bs.length (bv bs) :: L)) (hcap : bs.length ≤ cap) :
    Bys (own ao cap 5 1 bs.length (bv bs)) (subA ao cap at_ 1) ((bs.drop at_).take k) ∧ ((bs.drop at_).take k).length = k := by
  have hr := (H.front 1 rfl).ownRd
  have := hr.sub (cap := cap) (nn := bs.length) (sz := 1) (by simp) hcap at_ (at_ + k) (by omega)
  rw [Nat.mul_one, Nat.add_sub_cancel_left, Nat.mul_one] at this
  refine ⟨?_, by simp; omega⟩
  unfold Bys bv; unfold bv at this
  rw [← List.map_drop, ← List.map_take] at this; exact this
theorem c_number (p : Nat) (bs : List UInt8) (at_ : Nat) (err : Int) (k : Nat) (hlen : bs.length ≤ 1099511627776) (hat : at_ ≤ bs.length) (hk : k = 1 ∨ k = 2 ∨ k = 4 ∨ k = 8) :
    Fn Tryz.prog 85 [.pointer (some ⟨p, 0, none⟩), .int .i64 k] [curs p bs at_ err]
      (Ret fun v L => v = .int .u64 (le (ctake bs at_ err k).1 : Nat) ∧ L = [curs p bs (ctake bs at_ err k).2.1 (ctake bs at_ err k).2.2]) := by
  have hkn : known k = true := by rcases hk with rfl | rfl | rfl | rfl <;> rfl
  have hk9 : k ≤ 8 := by omega
  unfold ctake
  refine Fn.intro Tryz.call85 Tryz.func85 rfl Tryz.ntmps85 rfl ?_; intro g w Q hQ H
  obtain ⟨ao, cap, hcap, H⟩ := H.uncurs
  refine sq ?_; intro K1 hK1; refine wp_region_lit ?_; refine xas rfl ?_; refine wpList_nil ?_; refine tn ?_; refine hK1 _ _ ?_; clear hK1 K1
  refine sq ?_; intro K2 hK2; refine sq ?_; intro K3 hK3; refine wp_region_lit ?_; refine xmv rfl ?_
  refine xc [] H ((c_oknown k)) rfl rfl rfl rfl rfl ?_; rintro _ _ w ⟨rfl, rfl⟩ H; replace H := H.ap rfl
  rw [hkn]
  refine xntt rfl ?_; refine wpList_nil ?_; refine tn ?_; refine hK3 _ _ ?_; clear hK3 K3; refine iff_ rfl ?_; refine wp_skip ?_
  refine tn ?_; refine hK2 _ _ ?_; clear hK2 K2; refine sq ?_; intro K4 hK4; refine wp_region_lit ?_; refine xmv rfl ?_; refine xmv rfl ?_
  by_cases he : err ≠ 0
  · refine xc [0] H ((take_err p ao bs.length cap at_ err k hlen hat (by omega) hcap he)) rfl rfl rfl rfl rfl ?_; rintro _ _ w ⟨rfl, rfl⟩ H; replace H := H.ap rfl
    refine xas rfl ?_; refine wpList_nil ?_; refine tn ?_; refine hK4 _ _ ?_; clear hK4 K4; refine sq ?_; intro K5 hK5; refine sq ?_; intro K6 hK6
    refine wp_region_lit ?_; refine xmv rfl ?_; refine xli rfl ?_; refine xmv rfl ?_; refine xne rfl rfl ?_; refine wpList_nil ?_
    refine tn ?_; refine hK6 _ _ ?_; clear hK6 K6
    refine if_ rfl (fun h => ?_) (fun h => ?_)
    · refine sq ?_; intro K7 hK7; refine wp_region_lit ?_; refine xas rfl ?_; refine wpList_nil ?_; refine tn ?_; refine hK7 _ _ ?_; clear hK7 K7; refine wp_ret ?_
      refine tr ?_; clear hK5 K5
      replace H := H.curs hcap
      refine hQ _ _ _ ?_; refine r1 rfl rfl H ?_
      rw [if_pos he]; exact ⟨rfl, rfl⟩
    · exact absurd h (by simp; omega)
  · have he' : err = 0 := Classical.not_not.1 he
    subst he'
    by_cases hs : bs.length - at_ < k
    · refine xc [0] H ((take_short p ao bs.length cap at_ k hlen hat (by omega) hcap hs)) rfl rfl rfl rfl rfl ?_; rintro _ _ w ⟨rfl, rfl⟩ H; replace H := H.ap rfl
      refine xas rfl ?_; refine wpList_nil ?_; refine tn ?_; refine hK4 _ _ ?_; clear hK4 K4; refine sq ?_; intro K5 hK5; refine sq ?_; intro K6 hK6
      refine wp_region_lit ?_; refine xmv rfl ?_; refine xli rfl ?_; refine xmv rfl ?_; refine xne rfl rfl ?_; refine wpList_nil ?_
      refine tn ?_; refine hK6 _ _ ?_; clear hK6 K6
      refine if_ rfl (fun h => ?_) (fun h => ?_)
      · refine sq ?_; intro K7 hK7; refine wp_region_lit ?_; refine xas rfl ?_; refine wpList_nil ?_; refine tn ?_; refine hK7 _ _ ?_; clear hK7 K7; refine wp_ret ?_
        refine tr ?_; clear hK5 K5
        replace H := H.curs hcap
        refine hQ _ _ _ ?_; refine r1 rfl rfl H ?_
        rw [if_neg he, if_pos hs]; exact ⟨rfl, rfl⟩
      · exact absurd h (by simp; omega)
    · refine xc [0] H ((take_ok p ao bs.length cap at_ k hlen hat (by omega) hcap hs)) rfl rfl rfl rfl rfl ?_; rintro _ _ w ⟨rfl, rfl⟩ H; replace H := H.ap rfl
      obtain ⟨hr, hl⟩ := take_own (k := k) hat hs H hcap
      rcases hk with rfl | rfl | rfl | rfl
      · obtain ⟨c0, e⟩ := len1 hl
        rw [e] at hr
        have hc0 := c0.toNat_lt
        refine xas rfl ?_; refine wpList_nil ?_; refine tn ?_; refine hK4 _ _ ?_; clear hK4 K4; refine sq ?_; intro K5 hK5; refine sq ?_; intro K6 hK6
        refine wp_region_lit ?_; refine xmv rfl ?_; refine xli rfl ?_; refine xmv rfl ?_; refine xne rfl rfl ?_; refine wpList_nil ?_
        refine tn ?_; refine hK6 _ _ ?_; clear hK6 K6; refine iff_ rfl ?_; refine wp_skip ?_; refine tn ?_; refine hK5 _ _ ?_; clear hK5 K5; refine sq ?_; intro K7 hK7
        refine wp_region_lit ?_; refine xas rfl ?_; refine wpList_nil ?_; refine tn ?_; refine hK7 _ _ ?_; clear hK7 K7; refine sq ?_; intro K8 hK8
        refine sq ?_; intro K9 hK9; refine wp_region_lit ?_; refine xmv rfl ?_; refine wpList_nil ?_; refine tn ?_; refine hK9 _ _ ?_; clear hK9 K9; refine wp_block ?_
        refine sq ?_; intro K10 hK10; refine wp_block ?_; refine sq ?_; intro K11 hK11; refine wp_block ?_; refine sq ?_; intro K12 hK12; refine wp_block ?_
        refine sq ?_; intro K13 hK13; refine wp_block ?_; refine sq ?_; intro K14 hK14; refine sq ?_; intro K15 hK15; refine sq ?_; intro K16 hK16
        refine wp_region_lit ?_; refine xeq rfl rfl ?_; refine xas rfl ?_; refine wpList_nil ?_; refine tn ?_; refine hK16 _ _ ?_; clear hK16 K16; refine iff_ rfl ?_
        refine wp_skip ?_; refine tn ?_; refine hK15 _ _ ?_; clear hK15 K15; refine sq ?_; intro K17 hK17; refine sq ?_; intro K18 hK18; refine wp_region_lit ?_
        refine xeq rfl rfl ?_; refine xas rfl ?_; refine wpList_nil ?_; refine tn ?_; refine hK18 _ _ ?_; clear hK18 K18; refine iff_ rfl ?_; refine wp_skip ?_
        refine tn ?_; refine hK17 _ _ ?_; clear hK17 K17; refine sq ?_; intro K19 hK19; refine sq ?_; intro K20 hK20; refine wp_region_lit ?_; refine xeq rfl rfl ?_
        refine xas rfl ?_; refine wpList_nil ?_; refine tn ?_; refine hK20 _ _ ?_; clear hK20 K20; refine iff_ rfl ?_; refine wp_skip ?_
        refine tn ?_; refine hK19 _ _ ?_; clear hK19 K19; refine sq ?_; intro K21 hK21; refine wp_region_lit ?_; refine xeq rfl rfl ?_; refine xas rfl ?_
        refine wpList_nil ?_; refine tn ?_; refine hK21 _ _ ?_; clear hK21 K21; refine ift rfl ?_; refine wp_exit ?_; refine te ?_; clear hK14 K14; refine bo rfl ?_
        refine te ?_; clear hK13 K13; refine bo rfl ?_; refine te ?_; clear hK12 K12; refine bo rfl ?_; refine te ?_; clear hK11 K11; refine be ?_
        refine tn ?_; refine hK10 _ _ ?_; clear hK10 K10; refine sq ?_; intro K22 hK22; refine wp_region_lit ?_; refine xmv rfl ?_; refine xmv rfl ?_
        refine xi1r hr (show (bv [c0])[0]? = _ from rfl) (by decide) rfl rfl rfl ?_; intro b77 o77 hx77
        refine xld 1 H rfl rfl hx77 ?_
        refine xcvi rfl (wu64 (by omega)) ?_
        refine xorr rfl rfl ?_; refine xas rfl ?_; refine wpList_nil ?_; refine tn ?_; refine hK22 _ _ ?_; clear hK22 K22; refine wp_exit ?_; refine be ?_
        refine tn ?_; refine hK8 _ _ ?_; clear hK8 K8; refine sq ?_; intro K23 hK23; refine wp_region_lit ?_; refine xmv rfl ?_; refine xas rfl ?_; refine wpList_nil ?_
        refine tn ?_; refine hK23 _ _ ?_; clear hK23 K23; refine wp_ret ?_
        replace H := H.curs hcap
        refine hQ _ _ _ ?_; refine r1 rfl rfl H ?_
        rw [if_neg he, if_neg hs, e]
        refine ⟨?_, rfl⟩
        have e0 : (0 : Int) = ((0 * 2 ^ 8 : Nat) : Int) := by simp
        rw [e0, orLast (m := 0) (c := c0.toNat) (by omega) (by omega)]
        simp only [le]; congr 2 <;> omega
      · obtain ⟨c0, c1, e⟩ := len2 hl
        rw [e] at hr
        have hc0 := c0.toNat_lt
        have hc1 := c1.toNat_lt
        refine xas rfl ?_; refine wpList_nil ?_; refine tn ?_; refine hK4 _ _ ?_; clear hK4 K4; refine sq ?_; intro K5 hK5; refine sq ?_; intro K6 hK6
        refine wp_region_lit ?_; refine xmv rfl ?_; refine xli rfl ?_; refine xmv rfl ?_; refine xne rfl rfl ?_; refine wpList_nil ?_
        refine tn ?_; refine hK6 _ _ ?_; clear hK6 K6; refine iff_ rfl ?_; refine wp_skip ?_; refine tn ?_; refine hK5 _ _ ?_; clear hK5 K5; refine sq ?_; intro K7 hK7
        refine wp_region_lit ?_; refine xas rfl ?_; refine wpList_nil ?_; refine tn ?_; refine hK7 _ _ ?_; clear hK7 K7; refine sq ?_; intro K8 hK8
        refine sq ?_; intro K9 hK9; refine wp_region_lit ?_; refine xmv rfl ?_; refine wpList_nil ?_; refine tn ?_; refine hK9 _ _ ?_; clear hK9 K9; refine wp_block ?_
        refine sq ?_; intro K10 hK10; refine wp_block ?_; refine sq ?_; intro K11 hK11; refine wp_block ?_; refine sq ?_; intro K12 hK12; refine wp_block ?_
        refine sq ?_; intro K13 hK13; refine wp_block ?_; refine sq ?_; intro K14 hK14; refine sq ?_; intro K15 hK15; refine sq ?_; intro K16 hK16
        refine wp_region_lit ?_; refine xeq rfl rfl ?_; refine xas rfl ?_; refine wpList_nil ?_; refine tn ?_; refine hK16 _ _ ?_; clear hK16 K16; refine iff_ rfl ?_
        refine wp_skip ?_; refine tn ?_; refine hK15 _ _ ?_; clear hK15 K15; refine sq ?_; intro K17 hK17; refine sq ?_; intro K18 hK18; refine wp_region_lit ?_
        refine xeq rfl rfl ?_; refine xas rfl ?_; refine wpList_nil ?_; refine tn ?_; refine hK18 _ _ ?_; clear hK18 K18; refine iff_ rfl ?_; refine wp_skip ?_
        refine tn ?_; refine hK17 _ _ ?_; clear hK17 K17; refine sq ?_; intro K19 hK19; refine sq ?_; intro K20 hK20; refine wp_region_lit ?_; refine xeq rfl rfl ?_
        refine xas rfl ?_; refine wpList_nil ?_; refine tn ?_; refine hK20 _ _ ?_; clear hK20 K20; refine ift rfl ?_; refine wp_exit ?_; refine te ?_; clear hK19 K19
        refine te ?_; clear hK14 K14; refine bo rfl ?_; refine te ?_; clear hK13 K13; refine bo rfl ?_; refine te ?_; clear hK12 K12; refine be ?_
        refine tn ?_; refine hK11 _ _ ?_; clear hK11 K11; refine wp_region_lit ?_; refine xmv rfl ?_; refine xmv rfl ?_
        refine xi1r hr (show (bv [c0, c1])[1]? = _ from rfl) (by decide) rfl rfl rfl ?_; intro b70 o70 hx70
        refine xld 1 H rfl rfl hx70 ?_
        refine xcvi rfl (wu64 (by omega)) ?_
        refine xsl_u64 (s := 8) rfl rfl ?_
        refine xorr rfl rfl ?_; refine xas rfl ?_; refine wpList_nil ?_; refine bn ?_; refine tn ?_; refine hK10 _ _ ?_; clear hK10 K10; refine sq ?_; intro K21 hK21
        refine wp_region_lit ?_; refine xmv rfl ?_; refine xmv rfl ?_
        refine xi1r hr (show (bv [c0, c1])[0]? = _ from rfl) (by decide) rfl rfl rfl ?_; intro b77 o77 hx77
        refine xld 1 H rfl rfl hx77 ?_
        refine xcvi rfl (wu64 (by omega)) ?_
        refine xorr rfl rfl ?_; refine xas rfl ?_; refine wpList_nil ?_; refine tn ?_; refine hK21 _ _ ?_; clear hK21 K21; refine wp_exit ?_; refine be ?_
        refine tn ?_; refine hK8 _ _ ?_; clear hK8 K8; refine sq ?_; intro K22 hK22; refine wp_region_lit ?_; refine xmv rfl ?_; refine xas rfl ?_; refine wpList_nil ?_
        refine tn ?_; refine hK22 _ _ ?_; clear hK22 K22; refine wp_ret ?_
        replace H := H.curs hcap
        refine hQ _ _ _ ?_; refine r1 rfl rfl H ?_
        rw [if_neg he, if_neg hs, e]
        refine ⟨?_, rfl⟩
        have e0 : (0 : Int) = ((0 * 2 ^ 16 : Nat) : Int) := by simp
        rw [e0, orStep (m := 0) (c := c1.toNat) (j := 8) (j' := 16) rfl (by omega) (by omega), orLast (m := (0 * 256 + c1.toNat)) (c := c0.toNat) (by omega) (by omega)]
        simp only [le]; congr 2 <;> omega
      · obtain ⟨c0, c1, c2, c3, e⟩ := len4 hl
        rw [e] at hr
        have hc0 := c0.toNat_lt
        have hc1 := c1.toNat_lt
        have hc2 := c2.toNat_lt
        have hc3 := c3.toNat_lt
        refine xas rfl ?_; refine wpList_nil ?_; refine tn ?_; refine hK4 _ _ ?_; clear hK4 K4; refine sq ?_; intro K5 hK5; refine sq ?_; intro K6 hK6
        refine wp_region_lit ?_; refine xmv rfl ?_; refine xli rfl ?_; refine xmv rfl ?_; refine xne rfl rfl ?_; refine wpList_nil ?_
        refine tn ?_; refine hK6 _ _ ?_; clear hK6 K6; refine iff_ rfl ?_; refine wp_skip ?_; refine tn ?_; refine hK5 _ _ ?_; clear hK5 K5; refine sq ?_; intro K7 hK7
        refine wp_region_lit ?_; refine xas rfl ?_; refine wpList_nil ?_; refine tn ?_; refine hK7 _ _ ?_; clear hK7 K7; refine sq ?_; intro K8 hK8
        refine sq ?_; intro K9 hK9; refine wp_region_lit ?_; refine xmv rfl ?_; refine wpList_nil ?_; refine tn ?_; refine hK9 _ _ ?_; clear hK9 K9; refine wp_block ?_
        refine sq ?_; intro K10 hK10; refine wp_block ?_; refine sq ?_; intro K11 hK11; refine wp_block ?_; refine sq ?_; intro K12 hK12; refine wp_block ?_
        refine sq ?_; intro K13 hK13; refine wp_block ?_; refine sq ?_; intro K14 hK14; refine sq ?_; intro K15 hK15; refine sq ?_; intro K16 hK16
        refine wp_region_lit ?_; refine xeq rfl rfl ?_; refine xas rfl ?_; refine wpList_nil ?_; refine tn ?_; refine hK16 _ _ ?_; clear hK16 K16; refine iff_ rfl ?_
        refine wp_skip ?_; refine tn ?_; refine hK15 _ _ ?_; clear hK15 K15; refine sq ?_; intro K17 hK17; refine sq ?_; intro K18 hK18; refine wp_region_lit ?_
        refine xeq rfl rfl ?_; refine xas rfl ?_; refine wpList_nil ?_; refine tn ?_; refine hK18 _ _ ?_; clear hK18 K18; refine ift rfl ?_; refine wp_exit ?_
        refine te ?_; clear hK17 K17; refine te ?_; clear hK14 K14; refine bo rfl ?_; refine te ?_; clear hK13 K13; refine be ?_
        refine tn ?_; refine hK12 _ _ ?_; clear hK12 K12; refine sq ?_; intro K19 hK19; refine wp_region_lit ?_; refine xmv rfl ?_; refine xmv rfl ?_
        refine xi1r hr (show (bv [c0, c1, c2, c3])[3]? = _ from rfl) (by decide) rfl rfl rfl ?_; intro b56 o56 hx56
        refine xld 1 H rfl rfl hx56 ?_
        refine xcvi rfl (wu64 (by omega)) ?_
        refine xsl_u64 (s := 24) rfl rfl ?_
        refine xorr rfl rfl ?_; refine xas rfl ?_; refine wpList_nil ?_; refine tn ?_; refine hK19 _ _ ?_; clear hK19 K19; refine wp_region_lit ?_; refine xmv rfl ?_
        refine xmv rfl ?_
        refine xi1r hr (show (bv [c0, c1, c2, c3])[2]? = _ from rfl) (by decide) rfl rfl rfl ?_; intro b63 o63 hx63
        refine xld 1 H rfl rfl hx63 ?_
        refine xcvi rfl (wu64 (by omega)) ?_
        refine xsl_u64 (s := 16) rfl rfl ?_
        refine xorr rfl rfl ?_; refine xas rfl ?_; refine wpList_nil ?_; refine bn ?_; refine tn ?_; refine hK11 _ _ ?_; clear hK11 K11; refine wp_region_lit ?_
        refine xmv rfl ?_; refine xmv rfl ?_
        refine xi1r hr (show (bv [c0, c1, c2, c3])[1]? = _ from rfl) (by decide) rfl rfl rfl ?_; intro b70 o70 hx70
        refine xld 1 H rfl rfl hx70 ?_
        refine xcvi rfl (wu64 (by omega)) ?_
        refine xsl_u64 (s := 8) rfl rfl ?_
        refine xorr rfl rfl ?_; refine xas rfl ?_; refine wpList_nil ?_; refine bn ?_; refine tn ?_; refine hK10 _ _ ?_; clear hK10 K10; refine sq ?_; intro K20 hK20
        refine wp_region_lit ?_; refine xmv rfl ?_; refine xmv rfl ?_
        refine xi1r hr (show (bv [c0, c1, c2, c3])[0]? = _ from rfl) (by decide) rfl rfl rfl ?_; intro b77 o77 hx77
        refine xld 1 H rfl rfl hx77 ?_
        refine xcvi rfl (wu64 (by omega)) ?_
        refine xorr rfl rfl ?_; refine xas rfl ?_; refine wpList_nil ?_; refine tn ?_; refine hK20 _ _ ?_; clear hK20 K20; refine wp_exit ?_; refine be ?_
        refine tn ?_; refine hK8 _ _ ?_; clear hK8 K8; refine sq ?_; intro K21 hK21; refine wp_region_lit ?_; refine xmv rfl ?_; refine xas rfl ?_; refine wpList_nil ?_
        refine tn ?_; refine hK21 _ _ ?_; clear hK21 K21; refine wp_ret ?_
        replace H := H.curs hcap
        refine hQ _ _ _ ?_; refine r1 rfl rfl H ?_
        rw [if_neg he, if_neg hs, e]
        refine ⟨?_, rfl⟩
        have e0 : (0 : Int) = ((0 * 2 ^ 32 : Nat) : Int) := by simp
        rw [e0, orStep (m := 0) (c := c3.toNat) (j := 24) (j' := 32) rfl (by omega) (by omega), orStep (m := (0 * 256 + c3.toNat)) (c := c2.toNat) (j := 16) (j' := 24) rfl (by omega) (by omega), orStep (m := ((0 * 256 + c3.toNat) * 256 + c2.toNat)) (c := c1.toNat) (j := 8) (j' := 16) rfl (by omega) (by omega), orLast (m := (((0 * 256 + c3.toNat) * 256 + c2.toNat) * 256 + c1.toNat)) (c := c0.toNat) (by omega) (by omega)]
        simp only [le]; congr 2 <;> omega
      · obtain ⟨c0, c1, c2, c3, c4, c5, c6, c7, e⟩ := len8 hl
        rw [e] at hr
        have hc0 := c0.toNat_lt
        have hc1 := c1.toNat_lt
        have hc2 := c2.toNat_lt
        have hc3 := c3.toNat_lt
        have hc4 := c4.toNat_lt
        have hc5 := c5.toNat_lt
        have hc6 := c6.toNat_lt
        have hc7 := c7.toNat_lt
        refine xas rfl ?_; refine wpList_nil ?_; refine tn ?_; refine hK4 _ _ ?_; clear hK4 K4; refine sq ?_; intro K5 hK5; refine sq ?_; intro K6 hK6
        refine wp_region_lit ?_; refine xmv rfl ?_; refine xli rfl ?_; refine xmv rfl ?_; refine xne rfl rfl ?_; refine wpList_nil ?_
        refine tn ?_; refine hK6 _ _ ?_; clear hK6 K6; refine iff_ rfl ?_; refine wp_skip ?_; refine tn ?_; refine hK5 _ _ ?_; clear hK5 K5; refine sq ?_; intro K7 hK7
        refine wp_region_lit ?_; refine xas rfl ?_; refine wpList_nil ?_; refine tn ?_; refine hK7 _ _ ?_; clear hK7 K7; refine sq ?_; intro K8 hK8
        refine sq ?_; intro K9 hK9; refine wp_region_lit ?_; refine xmv rfl ?_; refine wpList_nil ?_; refine tn ?_; refine hK9 _ _ ?_; clear hK9 K9; refine wp_block ?_
        refine sq ?_; intro K10 hK10; refine wp_block ?_; refine sq ?_; intro K11 hK11; refine wp_block ?_; refine sq ?_; intro K12 hK12; refine wp_block ?_
        refine sq ?_; intro K13 hK13; refine wp_block ?_; refine sq ?_; intro K14 hK14; refine sq ?_; intro K15 hK15; refine sq ?_; intro K16 hK16
        refine wp_region_lit ?_; refine xeq rfl rfl ?_; refine xas rfl ?_; refine wpList_nil ?_; refine tn ?_; refine hK16 _ _ ?_; clear hK16 K16; refine ift rfl ?_
        refine wp_exit ?_; refine te ?_; clear hK15 K15; refine te ?_; clear hK14 K14; refine be ?_; refine tn ?_; refine hK13 _ _ ?_; clear hK13 K13
        refine sq ?_; intro K17 hK17; refine wp_region_lit ?_; refine xmv rfl ?_; refine xmv rfl ?_
        refine xi1r hr (show (bv [c0, c1, c2, c3, c4, c5, c6, c7])[7]? = _ from rfl) (by decide) rfl rfl rfl ?_; intro b28 o28 hx28
        refine xld 1 H rfl rfl hx28 ?_
        refine xcvi rfl (wu64 (by omega)) ?_
        refine xsl_u64 (s := 56) rfl rfl ?_
        refine xorr rfl rfl ?_; refine xas rfl ?_; refine wpList_nil ?_; refine tn ?_; refine hK17 _ _ ?_; clear hK17 K17; refine sq ?_; intro K18 hK18
        refine wp_region_lit ?_; refine xmv rfl ?_; refine xmv rfl ?_
        refine xi1r hr (show (bv [c0, c1, c2, c3, c4, c5, c6, c7])[6]? = _ from rfl) (by decide) rfl rfl rfl ?_; intro b35 o35 hx35
        refine xld 1 H rfl rfl hx35 ?_
        refine xcvi rfl (wu64 (by omega)) ?_
        refine xsl_u64 (s := 48) rfl rfl ?_
        refine xorr rfl rfl ?_; refine xas rfl ?_; refine wpList_nil ?_; refine tn ?_; refine hK18 _ _ ?_; clear hK18 K18; refine sq ?_; intro K19 hK19
        refine wp_region_lit ?_; refine xmv rfl ?_; refine xmv rfl ?_
        refine xi1r hr (show (bv [c0, c1, c2, c3, c4, c5, c6, c7])[5]? = _ from rfl) (by decide) rfl rfl rfl ?_; intro b42 o42 hx42
        refine xld 1 H rfl rfl hx42 ?_
        refine xcvi rfl (wu64 (by omega)) ?_
        refine xsl_u64 (s := 40) rfl rfl ?_
        refine xorr rfl rfl ?_; refine xas rfl ?_; refine wpList_nil ?_; refine tn ?_; refine hK19 _ _ ?_; clear hK19 K19; refine wp_region_lit ?_; refine xmv rfl ?_
        refine xmv rfl ?_
        refine xi1r hr (show (bv [c0, c1, c2, c3, c4, c5, c6, c7])[4]? = _ from rfl) (by decide) rfl rfl rfl ?_; intro b49 o49 hx49
        refine xld 1 H rfl rfl hx49 ?_
        refine xcvi rfl (wu64 (by omega)) ?_
        refine xsl_u64 (s := 32) rfl rfl ?_
        refine xorr rfl rfl ?_; refine xas rfl ?_; refine wpList_nil ?_; refine bn ?_; refine tn ?_; refine hK12 _ _ ?_; clear hK12 K12; refine sq ?_; intro K20 hK20
        refine wp_region_lit ?_; refine xmv rfl ?_; refine xmv rfl ?_
        refine xi1r hr (show (bv [c0, c1, c2, c3, c4, c5, c6, c7])[3]? = _ from rfl) (by decide) rfl rfl rfl ?_; intro b56 o56 hx56
        refine xld 1 H rfl rfl hx56 ?_
        refine xcvi rfl (wu64 (by omega)) ?_
        refine xsl_u64 (s := 24) rfl rfl ?_
        refine xorr rfl rfl ?_; refine xas rfl ?_; refine wpList_nil ?_; refine tn ?_; refine hK20 _ _ ?_; clear hK20 K20; refine wp_region_lit ?_; refine xmv rfl ?_
        refine xmv rfl ?_
        refine xi1r hr (show (bv [c0, c1, c2, c3, c4, c5, c6, c7])[2]? = _ from rfl) (by decide) rfl rfl rfl ?_; intro b63 o63 hx63
        refine xld 1 H rfl rfl hx63 ?_
        refine xcvi rfl (wu64 (by omega)) ?_
        refine xsl_u64 (s := 16) rfl rfl ?_
        refine xorr rfl rfl ?_; refine xas rfl ?_; refine wpList_nil ?_; refine bn ?_; refine tn ?_; refine hK11 _ _ ?_; clear hK11 K11; refine wp_region_lit ?_
        refine xmv rfl ?_; refine xmv rfl ?_
        refine xi1r hr (show (bv [c0, c1, c2, c3, c4, c5, c6, c7])[1]? = _ from rfl) (by decide) rfl rfl rfl ?_; intro b70 o70 hx70
        refine xld 1 H rfl rfl hx70 ?_
        refine xcvi rfl (wu64 (by omega)) ?_
        refine xsl_u64 (s := 8) rfl rfl ?_
        refine xorr rfl rfl ?_; refine xas rfl ?_; refine wpList_nil ?_; refine bn ?_; refine tn ?_; refine hK10 _ _ ?_; clear hK10 K10; refine sq ?_; intro K21 hK21
        refine wp_region_lit ?_; refine xmv rfl ?_; refine xmv rfl ?_
        refine xi1r hr (show (bv [c0, c1, c2, c3, c4, c5, c6, c7])[0]? = _ from rfl) (by decide) rfl rfl rfl ?_; intro b77 o77 hx77
        refine xld 1 H rfl rfl hx77 ?_
        refine xcvi rfl (wu64 (by omega)) ?_
        refine xorr rfl rfl ?_; refine xas rfl ?_; refine wpList_nil ?_; refine tn ?_; refine hK21 _ _ ?_; clear hK21 K21; refine wp_exit ?_; refine be ?_
        refine tn ?_; refine hK8 _ _ ?_; clear hK8 K8; refine sq ?_; intro K22 hK22; refine wp_region_lit ?_; refine xmv rfl ?_; refine xas rfl ?_; refine wpList_nil ?_
        refine tn ?_; refine hK22 _ _ ?_; clear hK22 K22; refine wp_ret ?_
        replace H := H.curs hcap
        refine hQ _ _ _ ?_; refine r1 rfl rfl H ?_
        rw [if_neg he, if_neg hs, e]
        refine ⟨?_, rfl⟩
        have e0 : (0 : Int) = ((0 * 2 ^ 64 : Nat) : Int) := by simp
        rw [e0, orStep (m := 0) (c := c7.toNat) (j := 56) (j' := 64) rfl (by omega) (by omega), orStep (m := (0 * 256 + c7.toNat)) (c := c6.toNat) (j := 48) (j' := 56) rfl (by omega) (by omega), orStep (m := ((0 * 256 + c7.toNat) * 256 + c6.toNat)) (c := c5.toNat) (j := 40) (j' := 48) rfl (by omega) (by omega), orStep (m := (((0 * 256 + c7.toNat) * 256 + c6.toNat) * 256 + c5.toNat)) (c := c4.toNat) (j := 32) (j' := 40) rfl (by omega) (by omega), orStep (m := ((((0 * 256 + c7.toNat) * 256 + c6.toNat) * 256 + c5.toNat) * 256 + c4.toNat)) (c := c3.toNat) (j := 24) (j' := 32) rfl (by omega) (by omega), orStep (m := (((((0 * 256 + c7.toNat) * 256 + c6.toNat) * 256 + c5.toNat) * 256 + c4.toNat) * 256 + c3.toNat)) (c := c2.toNat) (j := 16) (j' := 24) rfl (by omega) (by omega), orStep (m := ((((((0 * 256 + c7.toNat) * 256 + c6.toNat) * 256 + c5.toNat) * 256 + c4.toNat) * 256 + c3.toNat) * 256 + c2.toNat)) (c := c1.toNat) (j := 8) (j' := 16) rfl (by omega) (by omega), orLast (m := (((((((0 * 256 + c7.toNat) * 256 + c6.toNat) * 256 + c5.toNat) * 256 + c4.toNat) * 256 + c3.toNat) * 256 + c2.toNat) * 256 + c1.toNat)) (c := c0.toNat) (by omega) (by omega)]
        simp only [le]; congr 2 <;> omega
end Go.Proofs.YtegllbmkkfnajaaGreatDoor
end
section
namespace Go.Proofs.YtegllbmkkfnajaaGreatDoor
open Go Go.Proofs
attribute [local irreducible] Go.wpList Go.Code.wp St Fn mk
set_option maxRecDepth 20000
theorem ctake_le {bs : List UInt8} {at_ : Nat} {err : Int} {k : Nat} (h : at_ ≤ bs.length) : (ctake bs at_ err k).2.1 ≤ bs.length := by
  unfold ctake
  split
  · exact h
  · split
    · exact h
    · show at_ + k ≤ _; omega
theorem c_err (p : Nat) (bs : List UInt8) (at_ : Nat) (err : Int) : Fn Tryz.prog 88 [.pointer (some ⟨p, 0, none⟩)] [curs p bs at_ err] (Ret fun v L => v = .int .i64 err ∧ L = [curs p bs at_ err]) := by
  refine Fn.intro Tryz.call88 Tryz.func88 rfl Tryz.ntmps88 rfl ?_; intro g w Q hQ H
  obtain ⟨ao, cap, hcap, H⟩ := H.uncurs
  unfold curV at H
  refine sq ?_; intro K1 hK1; refine wp_region_lit ?_; refine xas rfl ?_; refine wpList_nil ?_; refine tn ?_; refine hK1 _ _ ?_; clear hK1 K1
  refine sq ?_; intro K2 hK2; refine sq ?_; intro K3 hK3; refine wp_region_lit ?_; refine xmv rfl ?_; refine xpns rfl rfl ?_; refine wpList_nil ?_
  refine tn ?_; refine hK3 _ _ ?_; clear hK3 K3; refine iff_ rfl ?_; refine wp_skip ?_; refine tn ?_; refine hK2 _ _ ?_; clear hK2 K2; refine sq ?_; intro K4 hK4
  refine wp_region_lit ?_; refine xmv rfl ?_
  refine xnc rfl ?_
  refine xfa rfl ?_
  refine xldb 0 H rfl rfl rfl ?_
  refine xas rfl ?_; refine wpList_nil ?_; refine tn ?_; refine hK4 _ _ ?_; clear hK4 K4; refine wp_ret ?_
  replace H := H.curs hcap
  refine hQ _ _ _ ?_; refine r1 rfl rfl H ?_
  exact ⟨rfl, rfl⟩
theorem c_left (p : Nat) (bs : List UInt8) (at_ : Nat) (err : Int) (hlen : bs.length ≤ 1099511627776) (hat : at_ ≤ bs.length) : Fn Tryz.prog 89 [.pointer (some ⟨p, 0, none⟩)] [curs p bs at_ err] (Ret fun v L => v = .int .i64 ((bs.length - at_ : Nat) : Int) ∧ L = [curs p bs at_ err]) := by
  refine Fn.intro Tryz.call89 Tryz.func89 rfl Tryz.ntmps89 rfl ?_; intro g w Q hQ H
  obtain ⟨ao, cap, hcap, H⟩ := H.uncurs
  unfold curV at H
  refine sq ?_; intro K1 hK1; refine wp_region_lit ?_; refine xas rfl ?_; refine wpList_nil ?_; refine tn ?_; refine hK1 _ _ ?_; clear hK1 K1
  refine sq ?_; intro K2 hK2; refine sq ?_; intro K3 hK3; refine wp_region_lit ?_; refine xmv rfl ?_; refine xpns rfl rfl ?_; refine wpList_nil ?_
  refine tn ?_; refine hK3 _ _ ?_; clear hK3 K3; refine iff_ rfl ?_; refine wp_skip ?_; refine tn ?_; refine hK2 _ _ ?_; clear hK2 K2; refine sq ?_; intro K4 hK4
  refine drws (m := 11) 100000 rfl rfl H ?_; clear H; intro w H; refine dt' 0 rfl (by kernel_rfl) H (ymv rfl) ?_
  refine dt' 1 rfl (by kernel_rfl) H (ync rfl) ?_
  refine dt' 2 rfl (by kernel_rfl) H (yfa rfl) ?_
  refine dt 3 rfl (by kernel_rfl) H (zldb 0 rfl rfl rfl) ?_
  refine dt' 4 rfl (by kernel_rfl) H (yli rfl) ?_; refine dt' 5 rfl (by kernel_rfl) H (ymv rfl) ?_
  refine dt' 6 rfl (by kernel_rfl) H (ync rfl) ?_
  refine dt' 7 rfl (by kernel_rfl) H (yfa rfl) ?_
  refine dt 8 rfl (by kernel_rfl) H (zldb 0 rfl rfl rfl) ?_
  refine dt' 9 rfl (by kernel_rfl) H (ysbi rfl rfl (wi64 (by omega))) ?_
  refine dt' 10 rfl (by kernel_rfl) H (yas rfl) ?_; refine dd (by kernel_rfl) ?_; refine tn ?_; refine hK4 _ _ ?_; clear hK4 K4; refine wp_ret ?_
  replace H := H.curs hcap
  refine hQ _ _ _ ?_; refine r1 rfl rfl H ?_
  exact ⟨by congr 1 <;> omega, rfl⟩
def cdone (bs : List UInt8) (at_ : Nat) (err : Int) : Int := if err ≠ 0 then err else if 0 < bs.length - at_ then 2 else 0
theorem c_done (p : Nat) (bs : List UInt8) (at_ : Nat) (err : Int) (hlen : bs.length ≤ 1099511627776) (hat : at_ ≤ bs.length) : Fn Tryz.prog 163 [.pointer (some ⟨p, 0, none⟩)] [curs p bs at_ err] (Ret fun v L => v = .int .i64 (cdone bs at_ err) ∧ L = [curs p bs at_ err]) := by
  unfold cdone
  refine Fn.intro Tryz.call163 Tryz.func163 rfl Tryz.ntmps163 rfl ?_; intro g w Q hQ H
  refine sq ?_; intro K1 hK1; refine wp_region_lit ?_; refine xas rfl ?_; refine wpList_nil ?_; refine tn ?_; refine hK1 _ _ ?_; clear hK1 K1
  refine sq ?_; intro K2 hK2; refine sq ?_; intro K3 hK3; refine wp_region_lit ?_; refine xmv rfl ?_
  refine xc [0] H ((c_err p bs at_ err)) rfl rfl rfl rfl rfl ?_; rintro _ _ w ⟨rfl, rfl⟩ H; replace H := H.ap rfl
  refine xas rfl ?_; refine wpList_nil ?_; refine tn ?_; refine hK3 _ _ ?_; clear hK3 K3; refine sq ?_; intro K4 hK4; refine wp_region_lit ?_; refine xmv rfl ?_
  refine xne rfl rfl ?_; refine wpList_nil ?_; refine tn ?_; refine hK4 _ _ ?_; clear hK4 K4
  refine if_ rfl (fun h => ?_) (fun h => ?_)
  · refine sq ?_; intro K5 hK5; refine wp_region_lit ?_; refine xmv rfl ?_; refine xas rfl ?_; refine wpList_nil ?_; refine tn ?_; refine hK5 _ _ ?_; clear hK5 K5
    refine wp_ret ?_; refine tr ?_; clear hK2 K2
    refine hQ _ _ _ ?_; refine r1 rfl rfl H ?_
    rw [if_pos (by simpa using h)]; exact ⟨rfl, rfl⟩
  · refine wp_skip ?_; refine tn ?_; refine hK2 _ _ ?_; clear hK2 K2; refine sq ?_; intro K5 hK5; refine sq ?_; intro K6 hK6; refine wp_region_lit ?_
    refine xmv rfl ?_
    refine xc [0] H ((c_left p bs at_ err hlen hat)) rfl rfl rfl rfl rfl ?_; rintro _ _ w ⟨rfl, rfl⟩ H; replace H := H.ap rfl
    refine xgt rfl rfl ?_; refine wpList_nil ?_; refine tn ?_; refine hK6 _ _ ?_; clear hK6 K6
    refine if_ rfl (fun h2 => ?_) (fun h2 => ?_)
    · refine sq ?_; intro K7 hK7; refine wp_region_lit ?_; refine xas rfl ?_; refine wpList_nil ?_; refine tn ?_; refine hK7 _ _ ?_; clear hK7 K7; refine wp_ret ?_
      refine tr ?_; clear hK5 K5
      refine hQ _ _ _ ?_; refine r1 rfl rfl H ?_
      rw [if_neg (by simpa using h), if_pos (by simp at h2; omega)]; exact ⟨rfl, rfl⟩
    · refine wp_skip ?_; refine tn ?_; refine hK5 _ _ ?_; clear hK5 K5; refine sq ?_; intro K7 hK7; refine wp_region_lit ?_; refine xas rfl ?_; refine wpList_nil ?_
      refine tn ?_; refine hK7 _ _ ?_; clear hK7 K7; refine wp_ret ?_
      refine hQ _ _ _ ?_; refine r1 rfl rfl H ?_
      rw [if_neg (by simpa using h), if_neg (by simp at h2; omega)]; exact ⟨rfl, rfl⟩
def ctext (bs : List UInt8) (at_ : Nat) (err : Int) (k most : Nat) : List UInt8 × Nat × Int :=
  let a := ctake bs at_ err k
  if a.2.2 ≠ 0 then ([], a.2) else if most < le a.1 then ([], a.2.1, 2) else ctake bs a.2.1 0 (le a.1)
theorem ctext_le {bs : List UInt8} {at_ : Nat} {err : Int} {k most : Nat} (h : at_ ≤ bs.length) : (ctext bs at_ err k most).2.1 ≤ bs.length := by
  unfold ctext
  simp only
  split
  · exact ctake_le h
  · split
    · exact ctake_le h
    · exact ctake_le (ctake_le h)
theorem c_text (p : Nat) (bs : List UInt8) (at_ : Nat) (err : Int) (k most : Nat) (hlen : bs.length ≤ 1099511627776) (hat : at_ ≤ bs.length) (hk : k = 1 ∨ k = 2 ∨ k = 4 ∨ k = 8) (hm : most ≤ 65536) :
    Fn Tryz.prog 122 [.pointer (some ⟨p, 0, none⟩), .int .i64 k, .int .i64 most] [curs p bs at_ err]
      (Ret fun v L => v = .string (str (ctext bs at_ err k most).1) ∧ L = [curs p bs (ctext bs at_ err k most).2.1 (ctext bs at_ err k most).2.2]) := by
  unfold ctext
  have hat1 : (ctake bs at_ err k).2.1 ≤ bs.length := ctake_le hat
  refine Fn.intro Tryz.call122 Tryz.func122 rfl Tryz.ntmps122 rfl ?_; intro g w Q hQ H
  refine sq ?_; intro K1 hK1; refine wp_region_lit ?_; refine xas rfl ?_; refine wpList_nil ?_; refine tn ?_; refine hK1 _ _ ?_; clear hK1 K1
  refine sq ?_; intro K2 hK2; refine wp_region_lit ?_; refine xmv rfl ?_; refine xmv rfl ?_
  refine xc [0] H ((c_number p bs at_ err k hlen hat hk)) rfl rfl rfl rfl rfl ?_; rintro _ _ w ⟨rfl, rfl⟩ H; replace H := H.ap rfl
  generalize ctake bs at_ err k = a at *
  obtain ⟨l, at1, e1⟩ := a
  simp only at hat1 ⊢ H
  obtain ⟨ao, cap, hcap, H⟩ := H.uncurs
  unfold curV at H
  refine xas rfl ?_; refine wpList_nil ?_; refine tn ?_; refine hK2 _ _ ?_; clear hK2 K2; refine sq ?_; intro K3 hK3; refine sq ?_; intro K4 hK4
  refine wp_region_lit ?_; refine xmv rfl ?_; refine xpns rfl rfl ?_; refine xmv rfl ?_; refine xgy rfl rfl rfl ?_; refine xmv rfl ?_; refine xgy rfl rfl rfl ?_
  refine xnc rfl ?_
  refine xgy rfl rfl rfl ?_; refine xfa rfl ?_; refine xgy rfl rfl rfl ?_
  refine xldb 0 H rfl rfl rfl ?_
  refine xgy rfl rfl rfl ?_; refine xne rfl rfl ?_; refine xpkf rfl rfl ?_; refine wpList_nil ?_; refine tn ?_; refine hK4 _ _ ?_; clear hK4 K4
  refine if_ rfl (fun h => ?_) (fun h => ?_)
  · refine sq ?_; intro K5 hK5; refine wp_region_lit ?_; refine xas rfl ?_; refine wpList_nil ?_; refine tn ?_; refine hK5 _ _ ?_; clear hK5 K5; refine wp_ret ?_
    refine tr ?_; clear hK3 K3
    replace H := H.curs hcap
    refine hQ _ _ _ ?_; refine r1 rfl rfl H ?_
    simp only at hat1 ⊢
    rw [if_pos (by simpa using h)]; exact ⟨rfl, rfl⟩
  · have h : e1 = 0 := by simpa using h
    subst h
    refine wp_skip ?_; refine tn ?_; refine hK3 _ _ ?_; clear hK3 K3; refine sq ?_; intro K5 hK5; refine sq ?_; intro K6 hK6; refine wp_region_lit ?_
    refine xmv rfl ?_; refine xlt rfl rfl ?_; refine xmv rfl ?_
    refine jor (b := ?b1) 5 22 [23, 24, 25, 26] 27 rfl rfl H (fun hhc1 hc1 => ?a1) (fun hhc1 hc1 => ?o1) ?_
    case a1 =>
      refine xgy rfl rfl rfl ?_; refine xmv rfl ?_; refine xgy rfl rfl rfl ?_; refine xmv rfl ?_; refine xgy rfl rfl rfl ?_
      refine xcvi rfl (wu64 (by omega)) ?_
      refine xgy rfl rfl rfl ?_; refine xgt rfl rfl ?_; refine xpkf rfl rfl ?_; exact hc1 _ _ _ _ _ H
    case o1 =>
      refine xgn rfl rfl rfl ?_; refine xgn rfl rfl rfl ?_; refine xgn rfl rfl rfl ?_; refine xgn rfl rfl rfl ?_; refine xpkt rfl rfl ?_; exact hc1 _ _ _ _ _ H
    intro u23 u24 u25 u26 w H; refine wpList_nil ?_; refine tn ?_; refine hK6 _ _ ?_; clear hK6 K6
    refine if_ rfl (fun h2 => ?_) (fun h2 => ?_)
    · have h2 : most < le l := by simp at h2; omega
      refine sq ?_; intro K7 hK7; refine wp_region_lit ?_; refine xmv rfl ?_
      refine xnc rfl ?_
      refine xfa rfl ?_
      (refine xst 0 H rfl rfl rfl rfl rfl ?_; intro w H)
      refine wpList_nil ?_; refine tn ?_; refine hK7 _ _ ?_; clear hK7 K7; refine sq ?_; intro K8 hK8; refine wp_region_lit ?_; refine xas rfl ?_; refine wpList_nil ?_
      refine tn ?_; refine hK8 _ _ ?_; clear hK8 K8; refine wp_ret ?_; refine tr ?_; clear hK5 K5
      replace H := H.curs hcap
      refine hQ _ _ _ ?_; refine r1 rfl rfl H ?_
      rw [if_neg (by simp), if_pos h2]; exact ⟨rfl, rfl⟩
    · have h2 : ¬ most < le l := by simp at h2; omega
      refine wp_skip ?_; refine tn ?_; refine hK5 _ _ ?_; clear hK5 K5; refine sq ?_; intro K7 hK7; refine wp_region_lit ?_; refine xmv rfl ?_; refine xmv rfl ?_
      refine xcvi rfl (wi64 (by omega)) ?_
      by_cases hs : bs.length - at1 < le l
      · refine xc [0] H ((take_short p ao bs.length cap at1 (le l) hlen hat1 (by omega) hcap hs)) rfl rfl rfl rfl rfl ?_; rintro _ _ w ⟨rfl, rfl⟩ H; replace H := H.ap rfl
        refine xcb (bs := []) (A := blk p (curV ao bs.length cap at1 1) curT) 0 H rfl rfl rfl rfl ?_
        refine xas rfl ?_; refine wpList_nil ?_; refine tn ?_; refine hK7 _ _ ?_; clear hK7 K7; refine wp_ret ?_
        replace H := H.curs hcap
        refine hQ _ _ _ ?_; refine r1 rfl rfl H ?_
        unfold ctake
        rw [if_neg (by simp), if_neg h2, if_neg (by simp), if_pos hs]; exact ⟨rfl, rfl⟩
      · refine xc [0] H ((take_ok p ao bs.length cap at1 (le l) hlen hat1 (by omega) hcap hs)) rfl rfl rfl rfl rfl ?_; rintro _ _ w ⟨rfl, rfl⟩ H; replace H := H.ap rfl
        obtain ⟨hr, hl⟩ := take_own (k := le l) hat1 hs H hcap
        refine xcb 1 H rfl rfl hr hl ?_
        refine xas rfl ?_; refine wpList_nil ?_; refine tn ?_; refine hK7 _ _ ?_; clear hK7 K7; refine wp_ret ?_
        replace H := H.curs hcap
        refine hQ _ _ _ ?_; refine r1 rfl rfl H ?_
        unfold ctake
        rw [if_neg (by simp), if_neg h2, if_neg (by simp), if_neg hs]; exact ⟨rfl, rfl⟩
end Go.Proofs.YtegllbmkkfnajaaGreatDoor
end
section
namespace Go.Proofs.YtegllbmkkfnajaaGreatDoor
open Go Go.Proofs
attribute [local irreducible] Go.wpList Go.Code.wp St Fn mk
set_option maxRecDepth 20000
theorem c_newcur (A : Asn) (ao : Option Addr) (cap : Nat) (bs : List UInt8) (hr : Bys A ao bs) (hl : bs.length ≤ 1099511627776) :
    Fn Tryz.prog 84 [.slice ao bs.length cap] [A] (Ret fun v L => ∃ p, v = .pointer (some ⟨p, 0, none⟩) ∧ L = [curs p bs 0 0, A]) := by
  refine Fn.intro Tryz.call84 Tryz.func84 rfl Tryz.ntmps84 rfl ?_; intro g w Q hQ H
  refine sq ?_; intro K1 hK1; refine wp_region_lit ?_; refine xas rfl ?_; refine wpList_nil ?_; refine tn ?_; refine hK1 _ _ ?_; clear hK1 K1
  refine sq ?_; intro K2 hK2; refine wp_region_lit ?_; refine xmv rfl ?_
  replace H := H.ownNil 5 1
  refine xap 0 H rfl rfl rfl (src_at (news := bv bs) 1 H rfl hr (by simp)) (bv_one _) (by omega) (by simp only [maxLen]; omega) ?_; intro ao4 cap4 w H hn4
  refine xbu rfl ?_; refine xbx H rfl rfl ?_; intro b6 w H; refine xas rfl ?_; refine wpList_nil ?_; refine tn ?_; refine hK2 _ _ ?_; clear hK2 K2
  refine wp_ret ?_
  have hc := H.front 1 rfl |>.ownLen.2
  simp only [Nat.zero_add, List.nil_append] at hc H
  replace H := H.curs hc
  refine hQ _ _ _ ?_; refine r1 rfl rfl H ?_
  exact ⟨_, by simp only [Nat.zero_add], rfl⟩
def leB : Nat → Nat → List UInt8
  | 0, _ => []
  | k + 1, n => UInt8.ofNat (n % 256) :: leB k (n / 256)
theorem leB_len : ∀ (k n : Nat), (leB k n).length = k
  | 0, _ => rfl
  | k + 1, n => by simp [leB, leB_len k]
def byt (n j : Nat) : Value := .int .u8 ((n >>> j % 256 : Nat) : Int)
theorem bv_leB (k n : Nat) : bv (leB (k + 1) n) = .int .u8 ((n % 256 : Nat) : Int) :: bv (leB k (n / 256)) := by
  simp only [leB, bv, List.map_cons, UInt8.toNat_ofNat_of_lt' (show n % 256 < 256 from Nat.mod_lt _ (by decide))]
theorem bv_leB1 (n : Nat) : bv (leB 1 n) = [.int .u8 ((n % 256 : Nat) : Int)] := by rw [bv_leB]; rfl
theorem bv_leB2 (n : Nat) : bv (leB 2 n) = [.int .u8 ((n % 256 : Nat) : Int), byt n 8] := by
  rw [bv_leB, bv_leB1]; simp only [byt, Nat.shiftRight_eq_div_pow]
theorem bv_leB4 (n : Nat) : bv (leB 4 n) = [.int .u8 ((n % 256 : Nat) : Int), byt n 8, byt n 16, byt n 24] := by
  rw [bv_leB, bv_leB, bv_leB2]; simp only [byt, Nat.shiftRight_eq_div_pow, Nat.div_div_eq_div_mul]
theorem bv_leB8 (n : Nat) : bv (leB 8 n) = [.int .u8 ((n % 256 : Nat) : Int), byt n 8, byt n 16, byt n 24, byt n 32, byt n 40, byt n 48, byt n 56] := by
  rw [bv_leB, bv_leB, bv_leB, bv_leB, bv_leB4]; simp only [byt, Nat.shiftRight_eq_div_pow, Nat.div_div_eq_div_mul]
theorem c_put (A : Asn) (ao : Option Addr) (cap : Nat) (bs : List UInt8) (k n : Nat) (hr : Bys A ao bs) (hl : bs.length ≤ 1099511627776) (hk : k = 1 ∨ k = 2 ∨ k = 4 ∨ k = 8) (hn : n < 18446744073709551616) :
    Fn Tryz.prog 102 [.slice ao bs.length cap, .int .i64 k, .int .u64 n] [A]
      (Ret fun v L => ∃ ao' cap', v = .slice ao' (bs.length + k) cap' ∧ L = [own ao' cap' 5 1 (bs.length + k) (bv (bs ++ leB k n)), A]) := by
  refine Fn.intro Tryz.call102 Tryz.func102 rfl Tryz.ntmps102 rfl ?_; intro g w Q hQ H
  rcases hk with rfl | rfl | rfl | rfl
  · refine sq ?_; intro K1 hK1; refine wp_region_lit ?_; refine xas rfl ?_; refine wpList_nil ?_; refine tn ?_; refine hK1 _ _ ?_; clear hK1 K1
    refine sq ?_; intro K2 hK2; refine wp_region_lit ?_; refine xal H ?_; intro b7 w H; refine wpList_nil ?_; refine tn ?_; refine hK2 _ _ ?_; clear hK2 K2
    refine sq ?_; intro K3 hK3; refine wp_region_lit ?_; refine xmv rfl ?_; refine xas rfl ?_; refine wpList_nil ?_; refine tn ?_; refine hK3 _ _ ?_; clear hK3 K3
    refine sq ?_; intro K4 hK4; refine sq ?_; intro K5 hK5; refine wp_region_lit ?_; refine xmv rfl ?_; refine wpList_nil ?_
    refine tn ?_; refine hK5 _ _ ?_; clear hK5 K5; refine wp_block ?_; refine sq ?_; intro K6 hK6; refine wp_block ?_; refine sq ?_; intro K7 hK7; refine wp_block ?_
    refine sq ?_; intro K8 hK8; refine wp_block ?_; refine sq ?_; intro K9 hK9; refine wp_block ?_; refine sq ?_; intro K10 hK10; refine wp_block ?_
    refine sq ?_; intro K11 hK11; refine sq ?_; intro K12 hK12; refine sq ?_; intro K13 hK13; refine wp_region_lit ?_; refine xeq rfl rfl ?_; refine xas rfl ?_
    refine wpList_nil ?_; refine tn ?_; refine hK13 _ _ ?_; clear hK13 K13; refine iff_ rfl ?_; refine wp_skip ?_; refine tn ?_; refine hK12 _ _ ?_; clear hK12 K12
    refine sq ?_; intro K14 hK14; refine sq ?_; intro K15 hK15; refine wp_region_lit ?_; refine xeq rfl rfl ?_; refine xas rfl ?_; refine wpList_nil ?_
    refine tn ?_; refine hK15 _ _ ?_; clear hK15 K15; refine iff_ rfl ?_; refine wp_skip ?_; refine tn ?_; refine hK14 _ _ ?_; clear hK14 K14
    refine sq ?_; intro K16 hK16; refine sq ?_; intro K17 hK17; refine wp_region_lit ?_; refine xeq rfl rfl ?_; refine xas rfl ?_; refine wpList_nil ?_
    refine tn ?_; refine hK17 _ _ ?_; clear hK17 K17; refine iff_ rfl ?_; refine wp_skip ?_; refine tn ?_; refine hK16 _ _ ?_; clear hK16 K16
    refine sq ?_; intro K18 hK18; refine wp_region_lit ?_; refine xeq rfl rfl ?_; refine xas rfl ?_; refine wpList_nil ?_
    refine tn ?_; refine hK18 _ _ ?_; clear hK18 K18; refine ift rfl ?_; refine wp_exit ?_; refine te ?_; clear hK11 K11; refine bo rfl ?_
    refine te ?_; clear hK10 K10; refine bo rfl ?_; refine te ?_; clear hK9 K9; refine bo rfl ?_; refine te ?_; clear hK8 K8; refine be ?_
    refine tn ?_; refine hK7 _ _ ?_; clear hK7 K7; refine sq ?_; intro K19 hK19; refine wp_region_lit ?_; refine xmv rfl ?_
    refine xcv_u8 rfl ?_
    refine xaa (j := 0) rfl rfl rfl (by decide) ?_
    (refine xst 0 H rfl rfl rfl rfl rfl ?_; intro w H)
    refine wpList_nil ?_; refine tn ?_; refine hK19 _ _ ?_; clear hK19 K19; refine wp_exit ?_; refine bo rfl ?_; refine te ?_; clear hK6 K6; refine be ?_
    refine tn ?_; refine hK4 _ _ ?_; clear hK4 K4; refine sq ?_; intro K20 hK20; refine wp_region_lit ?_; refine xmv rfl ?_; refine xli rfl ?_; refine xmv rfl ?_
    refine xadi rfl rfl (wi64 (by omega)) ?_
    refine xmk (l := 0) (c := bs.length + 1) H rfl rfl rfl (by simp) (by omega) (by omega) (by simp only [maxLen]; omega) ?_; intro b55 w H
    refine xas rfl ?_; refine wpList_nil ?_; refine tn ?_; refine hK20 _ _ ?_; clear hK20 K20; refine sq ?_; intro K21 hK21; refine wp_region_lit ?_
    refine xmv rfl ?_; refine xmv rfl ?_
    refine xap 0 H rfl rfl rfl (src_at (news := bv bs) 2 H rfl hr (by simp)) (bv_one _) (by omega) (by simp only [maxLen]; omega) ?_; intro ao58 cap58 w H hn58
    refine xas rfl ?_; refine wpList_nil ?_; refine tn ?_; refine hK21 _ _ ?_; clear hK21 K21; refine sq ?_; intro K22 hK22; refine wp_region_lit ?_
    refine xmv rfl ?_; refine xmv rfl ?_
    refine xslah (h := 1) rfl rfl rfl (by decide) ?_
    refine xap 0 H rfl rfl rfl (src_at (news := bv (leB 1 n)) 1 H rfl ⟨rfl, by rw [bv_leB1]; exact blk_cells (k := 1) rfl rfl⟩ (by rw [bv_length, leB_len])) (bv_one _) (by omega) (by simp only [maxLen]; omega) ?_; intro ao62 cap62 w H hn62
    simp only [Nat.zero_add, repV, List.nil_append] at H
    rw [← bv_append] at H
    replace H := H.keeps [0, 1] rfl
    refine xas rfl ?_; refine wpList_nil ?_; refine tn ?_; refine hK22 _ _ ?_; clear hK22 K22; refine wp_ret ?_
    refine hQ _ _ _ ?_; refine r1 rfl rfl H ?_
    exact ⟨_, _, by simp only [Nat.zero_add], rfl⟩
  · refine sq ?_; intro K1 hK1; refine wp_region_lit ?_; refine xas rfl ?_; refine wpList_nil ?_; refine tn ?_; refine hK1 _ _ ?_; clear hK1 K1
    refine sq ?_; intro K2 hK2; refine wp_region_lit ?_; refine xal H ?_; intro b7 w H; refine wpList_nil ?_; refine tn ?_; refine hK2 _ _ ?_; clear hK2 K2
    refine sq ?_; intro K3 hK3; refine wp_region_lit ?_; refine xmv rfl ?_; refine xas rfl ?_; refine wpList_nil ?_; refine tn ?_; refine hK3 _ _ ?_; clear hK3 K3
    refine sq ?_; intro K4 hK4; refine sq ?_; intro K5 hK5; refine wp_region_lit ?_; refine xmv rfl ?_; refine wpList_nil ?_
    refine tn ?_; refine hK5 _ _ ?_; clear hK5 K5; refine wp_block ?_; refine sq ?_; intro K6 hK6; refine wp_block ?_; refine sq ?_; intro K7 hK7; refine wp_block ?_
    refine sq ?_; intro K8 hK8; refine wp_block ?_; refine sq ?_; intro K9 hK9; refine wp_block ?_; refine sq ?_; intro K10 hK10; refine wp_block ?_
    refine sq ?_; intro K11 hK11; refine sq ?_; intro K12 hK12; refine sq ?_; intro K13 hK13; refine wp_region_lit ?_; refine xeq rfl rfl ?_; refine xas rfl ?_
    refine wpList_nil ?_; refine tn ?_; refine hK13 _ _ ?_; clear hK13 K13; refine iff_ rfl ?_; refine wp_skip ?_; refine tn ?_; refine hK12 _ _ ?_; clear hK12 K12
    refine sq ?_; intro K14 hK14; refine sq ?_; intro K15 hK15; refine wp_region_lit ?_; refine xeq rfl rfl ?_; refine xas rfl ?_; refine wpList_nil ?_
    refine tn ?_; refine hK15 _ _ ?_; clear hK15 K15; refine iff_ rfl ?_; refine wp_skip ?_; refine tn ?_; refine hK14 _ _ ?_; clear hK14 K14
    refine sq ?_; intro K16 hK16; refine sq ?_; intro K17 hK17; refine wp_region_lit ?_; refine xeq rfl rfl ?_; refine xas rfl ?_; refine wpList_nil ?_
    refine tn ?_; refine hK17 _ _ ?_; clear hK17 K17; refine ift rfl ?_; refine wp_exit ?_; refine te ?_; clear hK16 K16; refine te ?_; clear hK11 K11
    refine bo rfl ?_; refine te ?_; clear hK10 K10; refine bo rfl ?_; refine te ?_; clear hK9 K9; refine be ?_; refine tn ?_; refine hK8 _ _ ?_; clear hK8 K8
    refine wp_region_lit ?_; refine xmv rfl ?_
    refine xsr_u64 (s := 8) rfl rfl (by omega) ?_
    refine xcv_u8 rfl ?_
    refine xaa (j := 1) rfl rfl rfl (by decide) ?_
    (refine xst 0 H rfl rfl rfl rfl rfl ?_; intro w H)
    refine wpList_nil ?_; refine bn ?_; refine tn ?_; refine hK7 _ _ ?_; clear hK7 K7; refine sq ?_; intro K18 hK18; refine wp_region_lit ?_; refine xmv rfl ?_
    refine xcv_u8 rfl ?_
    refine xaa (j := 0) rfl rfl rfl (by decide) ?_
    (refine xst 0 H rfl rfl rfl rfl rfl ?_; intro w H)
    refine wpList_nil ?_; refine tn ?_; refine hK18 _ _ ?_; clear hK18 K18; refine wp_exit ?_; refine bo rfl ?_; refine te ?_; clear hK6 K6; refine be ?_
    refine tn ?_; refine hK4 _ _ ?_; clear hK4 K4; refine sq ?_; intro K19 hK19; refine wp_region_lit ?_; refine xmv rfl ?_; refine xli rfl ?_; refine xmv rfl ?_
    refine xadi rfl rfl (wi64 (by omega)) ?_
    refine xmk (l := 0) (c := bs.length + 2) H rfl rfl rfl (by simp) (by omega) (by omega) (by simp only [maxLen]; omega) ?_; intro b55 w H
    refine xas rfl ?_; refine wpList_nil ?_; refine tn ?_; refine hK19 _ _ ?_; clear hK19 K19; refine sq ?_; intro K20 hK20; refine wp_region_lit ?_
    refine xmv rfl ?_; refine xmv rfl ?_
    refine xap 0 H rfl rfl rfl (src_at (news := bv bs) 2 H rfl hr (by simp)) (bv_one _) (by omega) (by simp only [maxLen]; omega) ?_; intro ao58 cap58 w H hn58
    refine xas rfl ?_; refine wpList_nil ?_; refine tn ?_; refine hK20 _ _ ?_; clear hK20 K20; refine sq ?_; intro K21 hK21; refine wp_region_lit ?_
    refine xmv rfl ?_; refine xmv rfl ?_
    refine xslah (h := 2) rfl rfl rfl (by decide) ?_
    refine xap 0 H rfl rfl rfl (src_at (news := bv (leB 2 n)) 1 H rfl ⟨rfl, by rw [bv_leB2]; exact blk_cells (k := 2) rfl rfl⟩ (by rw [bv_length, leB_len])) (bv_one _) (by omega) (by simp only [maxLen]; omega) ?_; intro ao62 cap62 w H hn62
    simp only [Nat.zero_add, repV, List.nil_append] at H
    rw [← bv_append] at H
    replace H := H.keeps [0, 1] rfl
    refine xas rfl ?_; refine wpList_nil ?_; refine tn ?_; refine hK21 _ _ ?_; clear hK21 K21; refine wp_ret ?_
    refine hQ _ _ _ ?_; refine r1 rfl rfl H ?_
    exact ⟨_, _, by simp only [Nat.zero_add], rfl⟩
  · refine sq ?_; intro K1 hK1; refine wp_region_lit ?_; refine xas rfl ?_; refine wpList_nil ?_; refine tn ?_; refine hK1 _ _ ?_; clear hK1 K1
    refine sq ?_; intro K2 hK2; refine wp_region_lit ?_; refine xal H ?_; intro b7 w H; refine wpList_nil ?_; refine tn ?_; refine hK2 _ _ ?_; clear hK2 K2
    refine sq ?_; intro K3 hK3; refine wp_region_lit ?_; refine xmv rfl ?_; refine xas rfl ?_; refine wpList_nil ?_; refine tn ?_; refine hK3 _ _ ?_; clear hK3 K3
    refine sq ?_; intro K4 hK4; refine sq ?_; intro K5 hK5; refine wp_region_lit ?_; refine xmv rfl ?_; refine wpList_nil ?_
    refine tn ?_; refine hK5 _ _ ?_; clear hK5 K5; refine wp_block ?_; refine sq ?_; intro K6 hK6; refine wp_block ?_; refine sq ?_; intro K7 hK7; refine wp_block ?_
    refine sq ?_; intro K8 hK8; refine wp_block ?_; refine sq ?_; intro K9 hK9; refine wp_block ?_; refine sq ?_; intro K10 hK10; refine wp_block ?_
    refine sq ?_; intro K11 hK11; refine sq ?_; intro K12 hK12; refine sq ?_; intro K13 hK13; refine wp_region_lit ?_; refine xeq rfl rfl ?_; refine xas rfl ?_
    refine wpList_nil ?_; refine tn ?_; refine hK13 _ _ ?_; clear hK13 K13; refine iff_ rfl ?_; refine wp_skip ?_; refine tn ?_; refine hK12 _ _ ?_; clear hK12 K12
    refine sq ?_; intro K14 hK14; refine sq ?_; intro K15 hK15; refine wp_region_lit ?_; refine xeq rfl rfl ?_; refine xas rfl ?_; refine wpList_nil ?_
    refine tn ?_; refine hK15 _ _ ?_; clear hK15 K15; refine ift rfl ?_; refine wp_exit ?_; refine te ?_; clear hK14 K14; refine te ?_; clear hK11 K11
    refine bo rfl ?_; refine te ?_; clear hK10 K10; refine be ?_; refine tn ?_; refine hK9 _ _ ?_; clear hK9 K9; refine sq ?_; intro K16 hK16
    refine wp_region_lit ?_; refine xmv rfl ?_
    refine xsr_u64 (s := 24) rfl rfl (by omega) ?_
    refine xcv_u8 rfl ?_
    refine xaa (j := 3) rfl rfl rfl (by decide) ?_
    (refine xst 0 H rfl rfl rfl rfl rfl ?_; intro w H)
    refine wpList_nil ?_; refine tn ?_; refine hK16 _ _ ?_; clear hK16 K16; refine wp_region_lit ?_; refine xmv rfl ?_
    refine xsr_u64 (s := 16) rfl rfl (by omega) ?_
    refine xcv_u8 rfl ?_
    refine xaa (j := 2) rfl rfl rfl (by decide) ?_
    (refine xst 0 H rfl rfl rfl rfl rfl ?_; intro w H)
    refine wpList_nil ?_; refine bn ?_; refine tn ?_; refine hK8 _ _ ?_; clear hK8 K8; refine wp_region_lit ?_; refine xmv rfl ?_
    refine xsr_u64 (s := 8) rfl rfl (by omega) ?_
    refine xcv_u8 rfl ?_
    refine xaa (j := 1) rfl rfl rfl (by decide) ?_
    (refine xst 0 H rfl rfl rfl rfl rfl ?_; intro w H)
    refine wpList_nil ?_; refine bn ?_; refine tn ?_; refine hK7 _ _ ?_; clear hK7 K7; refine sq ?_; intro K17 hK17; refine wp_region_lit ?_; refine xmv rfl ?_
    refine xcv_u8 rfl ?_
    refine xaa (j := 0) rfl rfl rfl (by decide) ?_
    (refine xst 0 H rfl rfl rfl rfl rfl ?_; intro w H)
    refine wpList_nil ?_; refine tn ?_; refine hK17 _ _ ?_; clear hK17 K17; refine wp_exit ?_; refine bo rfl ?_; refine te ?_; clear hK6 K6; refine be ?_
    refine tn ?_; refine hK4 _ _ ?_; clear hK4 K4; refine sq ?_; intro K18 hK18; refine wp_region_lit ?_; refine xmv rfl ?_; refine xli rfl ?_; refine xmv rfl ?_
    refine xadi rfl rfl (wi64 (by omega)) ?_
    refine xmk (l := 0) (c := bs.length + 4) H rfl rfl rfl (by simp) (by omega) (by omega) (by simp only [maxLen]; omega) ?_; intro b55 w H
    refine xas rfl ?_; refine wpList_nil ?_; refine tn ?_; refine hK18 _ _ ?_; clear hK18 K18; refine sq ?_; intro K19 hK19; refine wp_region_lit ?_
    refine xmv rfl ?_; refine xmv rfl ?_
    refine xap 0 H rfl rfl rfl (src_at (news := bv bs) 2 H rfl hr (by simp)) (bv_one _) (by omega) (by simp only [maxLen]; omega) ?_; intro ao58 cap58 w H hn58
    refine xas rfl ?_; refine wpList_nil ?_; refine tn ?_; refine hK19 _ _ ?_; clear hK19 K19; refine sq ?_; intro K20 hK20; refine wp_region_lit ?_
    refine xmv rfl ?_; refine xmv rfl ?_
    refine xslah (h := 4) rfl rfl rfl (by decide) ?_
    refine xap 0 H rfl rfl rfl (src_at (news := bv (leB 4 n)) 1 H rfl ⟨rfl, by rw [bv_leB4]; exact blk_cells (k := 4) rfl rfl⟩ (by rw [bv_length, leB_len])) (bv_one _) (by omega) (by simp only [maxLen]; omega) ?_; intro ao62 cap62 w H hn62
    simp only [Nat.zero_add, repV, List.nil_append] at H
    rw [← bv_append] at H
    replace H := H.keeps [0, 1] rfl
    refine xas rfl ?_; refine wpList_nil ?_; refine tn ?_; refine hK20 _ _ ?_; clear hK20 K20; refine wp_ret ?_
    refine hQ _ _ _ ?_; refine r1 rfl rfl H ?_
    exact ⟨_, _, by simp only [Nat.zero_add], rfl⟩
  · refine sq ?_; intro K1 hK1; refine wp_region_lit ?_; refine xas rfl ?_; refine wpList_nil ?_; refine tn ?_; refine hK1 _ _ ?_; clear hK1 K1
    refine sq ?_; intro K2 hK2; refine wp_region_lit ?_; refine xal H ?_; intro b7 w H; refine wpList_nil ?_; refine tn ?_; refine hK2 _ _ ?_; clear hK2 K2
    refine sq ?_; intro K3 hK3; refine wp_region_lit ?_; refine xmv rfl ?_; refine xas rfl ?_; refine wpList_nil ?_; refine tn ?_; refine hK3 _ _ ?_; clear hK3 K3
    refine sq ?_; intro K4 hK4; refine sq ?_; intro K5 hK5; refine wp_region_lit ?_; refine xmv rfl ?_; refine wpList_nil ?_
    refine tn ?_; refine hK5 _ _ ?_; clear hK5 K5; refine wp_block ?_; refine sq ?_; intro K6 hK6; refine wp_block ?_; refine sq ?_; intro K7 hK7; refine wp_block ?_
    refine sq ?_; intro K8 hK8; refine wp_block ?_; refine sq ?_; intro K9 hK9; refine wp_block ?_; refine sq ?_; intro K10 hK10; refine wp_block ?_
    refine sq ?_; intro K11 hK11; refine sq ?_; intro K12 hK12; refine sq ?_; intro K13 hK13; refine wp_region_lit ?_; refine xeq rfl rfl ?_; refine xas rfl ?_
    refine wpList_nil ?_; refine tn ?_; refine hK13 _ _ ?_; clear hK13 K13; refine ift rfl ?_; refine wp_exit ?_; refine te ?_; clear hK12 K12
    refine te ?_; clear hK11 K11; refine be ?_; refine tn ?_; refine hK10 _ _ ?_; clear hK10 K10; refine sq ?_; intro K14 hK14; refine wp_region_lit ?_
    refine xmv rfl ?_
    refine xsr_u64 (s := 56) rfl rfl (by omega) ?_
    refine xcvi rfl (wu8 (by omega)) ?_
    refine xaa (j := 7) rfl rfl rfl (by decide) ?_
    (refine xst 0 H rfl rfl rfl rfl rfl ?_; intro w H)
    refine wpList_nil ?_; refine tn ?_; refine hK14 _ _ ?_; clear hK14 K14; refine sq ?_; intro K15 hK15; refine wp_region_lit ?_; refine xmv rfl ?_
    refine xsr_u64 (s := 48) rfl rfl (by omega) ?_
    refine xcv_u8 rfl ?_
    refine xaa (j := 6) rfl rfl rfl (by decide) ?_
    (refine xst 0 H rfl rfl rfl rfl rfl ?_; intro w H)
    refine wpList_nil ?_; refine tn ?_; refine hK15 _ _ ?_; clear hK15 K15; refine sq ?_; intro K16 hK16; refine wp_region_lit ?_; refine xmv rfl ?_
    refine xsr_u64 (s := 40) rfl rfl (by omega) ?_
    refine xcv_u8 rfl ?_
    refine xaa (j := 5) rfl rfl rfl (by decide) ?_
    (refine xst 0 H rfl rfl rfl rfl rfl ?_; intro w H)
    refine wpList_nil ?_; refine tn ?_; refine hK16 _ _ ?_; clear hK16 K16; refine wp_region_lit ?_; refine xmv rfl ?_
    refine xsr_u64 (s := 32) rfl rfl (by omega) ?_
    refine xcv_u8 rfl ?_
    refine xaa (j := 4) rfl rfl rfl (by decide) ?_
    (refine xst 0 H rfl rfl rfl rfl rfl ?_; intro w H)
    refine wpList_nil ?_; refine bn ?_; refine tn ?_; refine hK9 _ _ ?_; clear hK9 K9; refine sq ?_; intro K17 hK17; refine wp_region_lit ?_; refine xmv rfl ?_
    refine xsr_u64 (s := 24) rfl rfl (by omega) ?_
    refine xcv_u8 rfl ?_
    refine xaa (j := 3) rfl rfl rfl (by decide) ?_
    (refine xst 0 H rfl rfl rfl rfl rfl ?_; intro w H)
    refine wpList_nil ?_; refine tn ?_; refine hK17 _ _ ?_; clear hK17 K17; refine wp_region_lit ?_; refine xmv rfl ?_
    refine xsr_u64 (s := 16) rfl rfl (by omega) ?_
    refine xcv_u8 rfl ?_
    refine xaa (j := 2) rfl rfl rfl (by decide) ?_
    (refine xst 0 H rfl rfl rfl rfl rfl ?_; intro w H)
    refine wpList_nil ?_; refine bn ?_; refine tn ?_; refine hK8 _ _ ?_; clear hK8 K8; refine wp_region_lit ?_; refine xmv rfl ?_
    refine xsr_u64 (s := 8) rfl rfl (by omega) ?_
    refine xcv_u8 rfl ?_
    refine xaa (j := 1) rfl rfl rfl (by decide) ?_
    (refine xst 0 H rfl rfl rfl rfl rfl ?_; intro w H)
    refine wpList_nil ?_; refine bn ?_; refine tn ?_; refine hK7 _ _ ?_; clear hK7 K7; refine sq ?_; intro K18 hK18; refine wp_region_lit ?_; refine xmv rfl ?_
    refine xcv_u8 rfl ?_
    refine xaa (j := 0) rfl rfl rfl (by decide) ?_
    (refine xst 0 H rfl rfl rfl rfl rfl ?_; intro w H)
    refine wpList_nil ?_; refine tn ?_; refine hK18 _ _ ?_; clear hK18 K18; refine wp_exit ?_; refine bo rfl ?_; refine te ?_; clear hK6 K6; refine be ?_
    refine tn ?_; refine hK4 _ _ ?_; clear hK4 K4; refine sq ?_; intro K19 hK19; refine wp_region_lit ?_; refine xmv rfl ?_; refine xli rfl ?_; refine xmv rfl ?_
    refine xadi rfl rfl (wi64 (by omega)) ?_
    rw [show ((n >>> 56 : Nat) : Int) = ((n >>> 56 % 256 : Nat) : Int) by omega] at H
    refine xmk (l := 0) (c := bs.length + 8) H rfl rfl rfl (by simp) (by omega) (by omega) (by simp only [maxLen]; omega) ?_; intro b55 w H
    refine xas rfl ?_; refine wpList_nil ?_; refine tn ?_; refine hK19 _ _ ?_; clear hK19 K19; refine sq ?_; intro K20 hK20; refine wp_region_lit ?_
    refine xmv rfl ?_; refine xmv rfl ?_
    refine xap 0 H rfl rfl rfl (src_at (news := bv bs) 2 H rfl hr (by simp)) (bv_one _) (by omega) (by simp only [maxLen]; omega) ?_; intro ao58 cap58 w H hn58
    refine xas rfl ?_; refine wpList_nil ?_; refine tn ?_; refine hK20 _ _ ?_; clear hK20 K20; refine sq ?_; intro K21 hK21; refine wp_region_lit ?_
    refine xmv rfl ?_; refine xmv rfl ?_
    refine xslah (h := 8) rfl rfl rfl (by decide) ?_
    refine xap 0 H rfl rfl rfl (src_at (news := bv (leB 8 n)) 1 H rfl ⟨rfl, by rw [bv_leB8]; exact blk_cells (k := 8) rfl rfl⟩ (by rw [bv_length, leB_len])) (bv_one _) (by omega) (by simp only [maxLen]; omega) ?_; intro ao62 cap62 w H hn62
    simp only [Nat.zero_add, repV, List.nil_append] at H
    rw [← bv_append] at H
    replace H := H.keeps [0, 1] rfl
    refine xas rfl ?_; refine wpList_nil ?_; refine tn ?_; refine hK21 _ _ ?_; clear hK21 K21; refine wp_ret ?_
    refine hQ _ _ _ ?_; refine r1 rfl rfl H ?_
    exact ⟨_, _, by simp only [Nat.zero_add], rfl⟩
end Go.Proofs.YtegllbmkkfnajaaGreatDoor
end
section
namespace Go.Proofs.YtegllbmkkfnajaaGreatDoor
open Go Go.Proofs
attribute [local irreducible] Go.wpList Go.Code.wp St Fn mk
set_option maxRecDepth 20000
def crcBit (r : Nat) : Nat := if r &&& 1 = 1 then (r >>> 1) ^^^ 2197175160 else r >>> 1
def crcIt : Nat → Nat → Nat
  | 0, r => r
  | k + 1, r => crcBit (crcIt k r)
def crcByte (r : Nat) (b : UInt8) : Nat := crcIt 8 (r ^^^ b.toNat)
def crcMore (s : Nat) (bs : List UInt8) : Nat := 4294967295 - bs.foldl crcByte (4294967295 - s)
def crcSum (bs : List UInt8) : Nat := crcMore 0 bs
theorem crcBit_lt {r : Nat} (h : r < 4294967296) : crcBit r < 4294967296 := by
  have h1 : r >>> 1 < 4294967296 := by rw [Nat.shiftRight_eq_div_pow]; omega
  unfold crcBit
  split
  · exact Nat.xor_lt_two_pow (n := 32) h1 (by decide)
  · exact h1
theorem crcIt_lt {r : Nat} (h : r < 4294967296) : ∀ k, crcIt k r < 4294967296
  | 0 => h
  | k + 1 => crcBit_lt (crcIt_lt h k)
theorem crcMore_lt (s : Nat) (bs : List UInt8) : crcMore s bs < 4294967296 := by unfold crcMore; omega
theorem c_more (A : Asn) (ao : Option Addr) (cap : Nat) (bs : List UInt8) (s : Nat) (hs : s < 4294967296) (hr : Bys A ao bs) (hl : bs.length ≤ 1099511627776) :
    Fn Tryz.prog 140 [.int .u32 s, .slice ao bs.length cap] [A] (Ret fun v L => v = .int .u32 (crcMore s bs : Nat) ∧ L = [A]) := by
  refine Fn.intro Tryz.call140 Tryz.func140 rfl Tryz.ntmps140 rfl ?_; intro g w Q hQ H
  refine sq ?_; intro K1 hK1; refine wp_region_lit ?_; refine xas rfl ?_; refine wpList_nil ?_; refine tn ?_; refine hK1 _ _ ?_; clear hK1 K1
  refine sq ?_; intro K2 hK2; refine wp_region_lit ?_; refine xmv rfl ?_
  refine xxn_u32 rfl (by omega) ?_
  refine xas rfl ?_; refine wpList_nil ?_; refine tn ?_; refine hK2 _ _ ?_; clear hK2 K2; refine sq ?_; intro K3 hK3; refine sq ?_; intro K4 hK4
  refine wp_region_lit ?_; refine xmv rfl ?_; refine xli rfl ?_; refine xmv rfl ?_; refine wpList_nil ?_; refine tn ?_; refine hK4 _ _ ?_; clear hK4 K4
  refine wp_block ?_
  refine lp2 (α := Nat) (β := Nat) (fun k r => [(5, .int .u32 r), (11, .slice ao bs.length cap), (12, .int .i64 bs.length), (13, .int .i64 k)]) (fun k r => [A]) (fun k r => k ≤ bs.length ∧ r < 4294967296 ∧ bs.foldl crcByte (4294967295 - s) = (bs.drop k).foldl crcByte r) (fun k r => bs.length - k) (0) (4294967295 - s) ⟨rfl, rfl, rfl, rfl, True.intro⟩ (⟨Nat.zero_le _, by omega, rfl⟩) H ?_; intro k r ρ w hI H K5 hK5
  obtain ⟨hk, hr32, hf⟩ := hI
  refine sq ?_; intro K6 hK6; refine wp_region_lit ?_; refine xlt rfl rfl ?_; refine wpList_nil ?_; refine tn ?_; refine hK6 _ _ ?_; clear hK6 K6
  refine sq ?_; intro K7 hK7
  refine if_ rfl (fun h1 => ?_) (fun h1 => ?_)
  · have h1 : k < bs.length := by simp at h1; omega
    refine wp_skip ?_; refine tn ?_; refine hK7 _ _ ?_; clear hK7 K7; refine sq ?_; intro K8 hK8; refine wp_block ?_; refine sq ?_; intro K9 hK9
    refine wp_region_lit ?_
    have hg : bs[k]? = some bs[k] := List.getElem?_eq_getElem h1
    have hdr : bs.drop k = bs[k] :: bs.drop (k + 1) := List.drop_eq_getElem_cons h1
    rw [hdr, List.foldl_cons] at hf
    generalize bs[k] = c at hg hf
    have hc := c.toNat_lt
    refine xi1r hr (bv_get hg) h1 rfl rfl rfl ?_; intro b15 o15 hx15
    refine xld 0 H rfl rfl hx15 ?_
    refine xas rfl ?_; refine wpList_nil ?_; refine tn ?_; refine hK9 _ _ ?_; clear hK9 K9; refine sq ?_; intro K10 hK10; refine wp_region_lit ?_; refine xmv rfl ?_
    refine xmv rfl ?_
    refine xcvi rfl (wu32 (by omega)) ?_
    refine xxo_u32 rfl rfl (by omega) (by omega) ?_
    refine xas rfl ?_; refine wpList_nil ?_; refine tn ?_; refine hK10 _ _ ?_; clear hK10 K10; refine sq ?_; intro K11 hK11; refine wp_region_lit ?_
    refine xmv rfl ?_; refine wpList_nil ?_; refine tn ?_; refine hK11 _ _ ?_; clear hK11 K11; refine wp_block ?_
    have hx : r ^^^ c.toNat < 4294967296 := Nat.xor_lt_two_pow (n := 32) hr32 (by omega)
    refine lp2 (α := Nat) (β := Nat) (fun j q => [(5, .int .u32 q), (11, .slice ao bs.length cap), (12, .int .i64 bs.length), (13, .int .i64 k), (21, .int .i64 j)]) (fun j q => [A]) (fun j q => j ≤ 8 ∧ q = crcIt j (r ^^^ c.toNat)) (fun j q => 8 - j) (0) (r ^^^ c.toNat) ⟨rfl, rfl, rfl, rfl, rfl, True.intro⟩ (⟨Nat.zero_le _, rfl⟩) H ?_; intro j q ρ w hI H K12 hK12
    obtain ⟨hj, hq⟩ := hI
    have hq32 : q < 4294967296 := by rw [hq]; exact crcIt_lt hx j
    refine sq ?_; intro K13 hK13; refine wp_region_lit ?_; refine xlt rfl rfl ?_; refine wpList_nil ?_; refine tn ?_; refine hK13 _ _ ?_; clear hK13 K13
    refine sq ?_; intro K14 hK14
    refine if_ rfl (fun h2 => ?_) (fun h2 => ?_)
    · have h2 : j < 8 := by simp at h2; omega
      refine wp_skip ?_; refine tn ?_; refine hK14 _ _ ?_; clear hK14 K14; refine sq ?_; intro K15 hK15; refine wp_block ?_; refine sq ?_; intro K16 hK16
      refine wp_region_lit ?_; refine xmv rfl ?_
      refine xan_u32 (b := 1) rfl rfl (by omega) (by omega) ?_
      refine xas rfl ?_; refine wpList_nil ?_; refine tn ?_; refine hK16 _ _ ?_; clear hK16 K16; refine sq ?_; intro K17 hK17; refine wp_region_lit ?_
      refine xmv rfl ?_
      refine xsr_u32 (s := 1) rfl rfl (by omega) ?_
      refine xas rfl ?_; refine wpList_nil ?_; refine tn ?_; refine hK17 _ _ ?_; clear hK17 K17; refine sq ?_; intro K18 hK18; refine wp_region_lit ?_
      refine xmv rfl ?_; refine xeq rfl rfl ?_; refine wpList_nil ?_; refine tn ?_; refine hK18 _ _ ?_; clear hK18 K18
      refine if_ rfl (fun h3 => ?_) (fun h3 => ?_)
      · have h3 : q &&& 1 = 1 := by exact_mod_cast eq_of_beq h3
        have hs32 : q >>> 1 < 4294967296 := by rw [Nat.shiftRight_eq_div_pow]; omega
        refine wp_region_lit ?_; refine xmv rfl ?_
        refine xxo_u32 (b := 2197175160) rfl rfl (by omega) (by omega) ?_
        refine xas rfl ?_; refine wpList_nil ?_; refine bn ?_; refine tn ?_; refine hK15 _ _ ?_; clear hK15 K15; refine wp_region_lit ?_
        refine xadi rfl rfl (wi64 (by omega)) ?_
        refine xmv rfl ?_; refine wpList_nil ?_
        refine tn ?_; refine hK12 _ _ (j + 1) ((q >>> 1) ^^^ 2197175160) ⟨rfl, rfl, rfl, rfl, rfl, True.intro⟩ ?_ H ?_
        exact ⟨h2, by simp only [crcIt, ← hq]; unfold crcBit; rw [if_pos h3]⟩
        omega
      · have h3 : ¬ q &&& 1 = 1 := by intro h; rw [h] at h3; simp at h3
        refine wp_skip ?_; refine bn ?_; refine tn ?_; refine hK15 _ _ ?_; clear hK15 K15; refine wp_region_lit ?_
        refine xadi rfl rfl (wi64 (by omega)) ?_
        refine xmv rfl ?_; refine wpList_nil ?_
        refine tn ?_; refine hK12 _ _ (j + 1) (q >>> 1) ⟨rfl, rfl, rfl, rfl, rfl, True.intro⟩ ?_ H ?_
        exact ⟨h2, by simp only [crcIt, ← hq]; unfold crcBit; rw [if_neg h3]⟩
        omega
    · have h2 : j = 8 := by simp at h2; omega
      refine wp_exit ?_; refine te ?_; clear hK14 K14; refine te ?_; clear hK12 K12; refine be ?_; refine bn ?_; refine tn ?_; refine hK8 _ _ ?_; clear hK8 K8
      refine wp_region_lit ?_
      refine xadi rfl rfl (wi64 (by omega)) ?_
      refine xmv rfl ?_; refine wpList_nil ?_
      refine tn ?_; refine hK5 _ _ (k + 1) (q) ⟨rfl, rfl, rfl, rfl, True.intro⟩ ?_ H ?_
      refine ⟨h1, hq32, ?_⟩
      rw [hf, hq, h2]; rfl
      omega
  · have h1 : k = bs.length := by simp at h1; omega
    refine wp_exit ?_; refine te ?_; clear hK7 K7; refine te ?_; clear hK5 K5; refine be ?_; refine tn ?_; refine hK3 _ _ ?_; clear hK3 K3
    refine sq ?_; intro K8 hK8; refine wp_region_lit ?_; refine xmv rfl ?_
    refine xxn_u32 rfl (by omega) ?_
    refine xas rfl ?_; refine wpList_nil ?_; refine tn ?_; refine hK8 _ _ ?_; clear hK8 K8; refine wp_ret ?_
    refine hQ _ _ _ ?_; refine r1 rfl rfl H ?_
    refine ⟨?_, rfl⟩
    unfold crcMore
    rw [hf, h1, List.drop_length]; rfl
theorem c_sum (A : Asn) (ao : Option Addr) (cap : Nat) (bs : List UInt8) (hr : Bys A ao bs) (hl : bs.length ≤ 1099511627776) :
    Fn Tryz.prog 103 [.slice ao bs.length cap] [A] (Ret fun v L => v = .int .u32 (crcSum bs : Nat) ∧ L = [A]) := by
  refine Fn.intro Tryz.call103 Tryz.func103 rfl Tryz.ntmps103 rfl ?_; intro g w Q hQ H
  refine sq ?_; intro K1 hK1; refine wp_region_lit ?_; refine xas rfl ?_; refine wpList_nil ?_; refine tn ?_; refine hK1 _ _ ?_; clear hK1 K1
  refine sq ?_; intro K2 hK2; refine wp_region_lit ?_; refine xmv rfl ?_
  refine xc [0] H ((c_more A ao cap bs 0 (by decide) hr hl)) rfl rfl rfl rfl rfl ?_; rintro _ _ w ⟨rfl, rfl⟩ H; replace H := H.ap rfl
  refine xas rfl ?_; refine wpList_nil ?_; refine tn ?_; refine hK2 _ _ ?_; clear hK2 K2; refine wp_ret ?_; refine hQ _ _ _ ?_; refine r1 rfl rfl H ?_
  exact ⟨rfl, rfl⟩
theorem c_sumN (A : Asn) (ao : Option Addr) (cap n : Nat) (bs : List UInt8) (hr : Bys A ao bs) (hl : bs.length ≤ 1099511627776) (hn : bs.length = n) :
    Fn Tryz.prog 103 [.slice ao n cap] [A] (Ret fun v L => v = .int .u32 (crcSum bs : Nat) ∧ L = [A]) := by
  subst hn; exact c_sum A ao cap bs hr hl
theorem bys_sub {A : Asn} {ao : Option Addr} {cap : Nat} {bs : List UInt8} (hr : Bys A ao bs) (hcap : bs.length ≤ cap) (l h : Nat) (hh : h ≤ bs.length) (hlh : l ≤ h) : Bys A (subA ao cap l 1) ((bs.drop l).take (h - l)) := by
  have := hr.sub (cap := cap) (nn := bs.length) (sz := 1) (by simp) hcap l h hh
  rw [Nat.mul_one, Nat.mul_one] at this
  unfold Bys bv at *
  rw [← List.map_drop, ← List.map_take] at this; exact this
theorem bys_drop {A : Asn} {ao : Option Addr} {cap : Nat} {bs : List UInt8} (hr : Bys A ao bs) (hcap : bs.length ≤ cap) (l : Nat) (hl : l ≤ bs.length) : Bys A (subA ao cap l 1) (bs.drop l) := by
  have := bys_sub hr hcap l bs.length (Nat.le_refl _) hl
  rwa [List.take_of_length_le (by simp)] at this
theorem bys_take {A : Asn} {ao : Option Addr} {bs : List UInt8} (hr : Bys A ao bs) (h : Nat) : Bys A ao (bs.take h) := by
  cases ao with
  | none =>
    have : bv bs = [] := hr
    have e : bs = [] := by simpa [bv] using this
    subst e; simp; rfl
  | some a =>
    obtain ⟨h1, h2⟩ := hr
    refine ⟨h1, ?_⟩
    have := h2.sub 0 h
    unfold bv at *
    rw [List.map_take]; simpa using this
def sealB (bs : List UInt8) : List UInt8 := bs ++ leB 4 (crcSum bs)
theorem c_seal (A : Asn) (ao : Option Addr) (cap : Nat) (bs : List UInt8) (hr : Bys A ao bs) (hl : bs.length ≤ 1099511627776) :
    Fn Tryz.prog 70 [.slice ao bs.length cap] [A] (Ret fun v L => ∃ ao' cap', v = .slice ao' (bs.length + 4) cap' ∧ L = [own ao' cap' 5 1 (bs.length + 4) (bv (sealB bs)), A]) := by
  have hm := crcMore_lt 0 bs
  refine Fn.intro Tryz.call70 Tryz.func70 rfl Tryz.ntmps70 rfl ?_; intro g w Q hQ H
  refine sq ?_; intro K1 hK1; refine wp_region_lit ?_; refine xas rfl ?_; refine wpList_nil ?_; refine tn ?_; refine hK1 _ _ ?_; clear hK1 K1
  refine sq ?_; intro K2 hK2; refine wp_region_lit ?_; refine xmv rfl ?_; refine xmv rfl ?_
  refine xc [0] H ((c_sum A ao cap bs hr hl)) rfl rfl rfl rfl rfl ?_; rintro _ _ w ⟨rfl, rfl⟩ H; replace H := H.ap rfl
  unfold crcSum
  refine xcvi rfl (wu64 (by omega)) ?_
  refine xc [0] H ((c_put A ao cap bs 4 (crcMore 0 bs) hr hl (by simp) (by omega))) rfl rfl rfl rfl rfl ?_; rintro _ _ w ⟨ao', cap', rfl, rfl⟩ H; replace H := H.ap rfl
  refine xas rfl ?_; refine wpList_nil ?_; refine tn ?_; refine hK2 _ _ ?_; clear hK2 K2; refine wp_ret ?_; refine hQ _ _ _ ?_; refine r1 rfl rfl H ?_
  exact ⟨_, _, rfl, rfl⟩
def openB (bs : List UInt8) : Option (List UInt8) :=
  if bs.length < 4 then none else if le (bs.drop (bs.length - 4)) = crcSum (bs.take (bs.length - 4)) then some (bs.take (bs.length - 4)) else none
def openR (A : List Asn) (r : Option (List UInt8)) (v : Value) (L : List Asn) : Prop :=
  match r with
  | some bs => ∃ ao cap, v = .tuple #[.slice ao bs.length cap, .bool true] ∧ L = own ao cap 5 1 bs.length (bv bs) :: A
  | none => v = .tuple #[.slice none 0 0, .bool false] ∧ L = A
theorem c_open (A : Asn) (ao : Option Addr) (cap : Nat) (bs : List UInt8) (hr : Bys A ao bs) (hl : bs.length ≤ 1099511627776) (hcap : bs.length ≤ cap) :
    Fn Tryz.prog 83 [.slice ao bs.length cap] [A] (Ret (openR [A] (openB bs))) := by
  unfold openB
  refine Fn.intro Tryz.call83 Tryz.func83 rfl Tryz.ntmps83 rfl ?_; intro g w Q hQ H
  refine sq ?_; intro K1 hK1; refine wp_region_lit ?_; refine xas rfl ?_; refine xas rfl ?_; refine wpList_nil ?_; refine tn ?_; refine hK1 _ _ ?_; clear hK1 K1
  refine sq ?_; intro K2 hK2; refine wp_region_lit ?_; refine xmv rfl ?_; refine xli rfl ?_
  refine xsbi rfl rfl (wi64 (by omega)) ?_
  refine xas rfl ?_; refine wpList_nil ?_; refine tn ?_; refine hK2 _ _ ?_; clear hK2 K2; refine sq ?_; intro K3 hK3; refine sq ?_; intro K4 hK4
  refine wp_region_lit ?_; refine xmv rfl ?_; refine xlt rfl rfl ?_; refine wpList_nil ?_; refine tn ?_; refine hK4 _ _ ?_; clear hK4 K4
  refine if_ rfl (fun h0 => ?_) (fun h0 => ?_)
  · refine sq ?_; intro K5 hK5; refine wp_region_lit ?_; refine xas rfl ?_; refine xas rfl ?_; refine wpList_nil ?_; refine tn ?_; refine hK5 _ _ ?_; clear hK5 K5
    refine wp_ret ?_; refine tr ?_; clear hK3 K3
    refine hQ _ _ _ ?_; refine r2 rfl rfl rfl H ?_
    rw [if_pos (by simp at h0; omega)]; exact ⟨rfl, rfl⟩
  · have h0 : ¬ bs.length < 4 := by simp at h0; omega
    obtain ⟨c0, c1, c2, c3, e⟩ := len4 (l := bs.drop (bs.length - 4)) (by simp; omega)
    have hr2 := bys_drop hr hcap (bs.length - 4) (by omega)
    rw [e] at hr2
    refine wp_skip ?_; refine tn ?_; refine hK3 _ _ ?_; clear hK3 K3; refine sq ?_; intro K5 hK5; refine wp_region_lit ?_; refine xmv rfl ?_; refine xmv rfl ?_
    refine xsl1 (l := bs.length - 4) rfl rfl (by omega) (by omega) ?_
    rw [show bs.length - (bs.length - 4) = [c0, c1, c2, c3].length by simp; omega]
    refine xc [0] H ((c_newcur A _ _ [c0, c1, c2, c3] hr2 (by simp))) rfl rfl rfl rfl rfl ?_; rintro _ _ w ⟨p, rfl, rfl⟩ H; replace H := H.ap rfl
    refine xas rfl ?_; refine wpList_nil ?_; refine tn ?_; refine hK5 _ _ ?_; clear hK5 K5; refine sq ?_; intro K6 hK6; refine sq ?_; intro K7 hK7
    have hct : ctake [c0, c1, c2, c3] 0 0 4 = ([c0, c1, c2, c3], 4, 0) := rfl
    have hs := crcMore_lt 0 (bs.take (bs.length - 4))
    refine cutK (g := g) (α := Unit) (fun u => [(0, .slice ao bs.length cap), (4, .int .i64 (bs.length - 4)), (22, .bool (((le [c0, c1, c2, c3] : Nat) : Int) != ((crcSum (bs.take (bs.length - 4)) : Nat) : Int)))]) (fun u => [A]) (fun u => True) (fun K8 hK8 => ?_) (fun u ρ w hI H => ?_)
    · skip
      refine drwt (m := 8) rfl rfl H ?_; clear H; intro w H; refine dt' 0 rfl (by kernel_rfl) True.intro (ymv rfl) ?_
      refine dt' 2 rfl (by kernel_rfl) True.intro (ymv rfl) ?_; refine dt' 3 rfl (by kernel_rfl) True.intro (ymv rfl) ?_
      refine dt' 4 rfl (by kernel_rfl) True.intro (ysl0 (h := bs.length - 4) rfl rfl (by omega) (by omega)) ?_
      refine do1 1 rfl (by kernel_rfl) ?_; intro K9 hK9
      refine xc [0] H ((c_number p [c0, c1, c2, c3] 0 0 4 (by simp) (by simp) (by simp))) rfl rfl rfl rfl rfl ?_; rintro _ _ w ⟨rfl, rfl⟩ H; replace H := H.ap rfl
      rw [hct] at H ⊢
      refine wpList_nil ?_; refine tn ?_; refine hK9 _ _ (fun _ => True.intro) ?_; clear hK9 K9; refine do1 5 rfl (by kernel_rfl) ?_; intro K10 hK10
      refine xc [1] H ((c_sumN A ao cap (bs.length - 4) (bs.take (bs.length - 4)) (bys_take hr _) (by simp; omega) (by simp))) rfl rfl rfl rfl rfl ?_; rintro _ _ w ⟨rfl, rfl⟩ H; replace H := H.ap rfl
      unfold crcSum
      refine wpList_nil ?_; refine tn ?_; refine hK10 _ _ (fun _ => True.intro) ?_; clear hK10 K10
      refine dt' 6 rfl (by kernel_rfl) True.intro (ycvi rfl (wu64 (by omega))) ?_
      refine dt' 7 rfl (by kernel_rfl) True.intro (yne rfl rfl) ?_; refine dd (by kernel_rfl) ?_
      replace H := H.keeps [0] rfl
      refine tn ?_; refine hK8 _ _ (()) ⟨rfl, rfl, rfl, True.intro⟩ ?_ H
      trivial
    · refine hK7 _ _ ?_; clear hK7 K7
      refine if_ rfl (fun h1 => ?_) (fun h1 => ?_)
      · refine sq ?_; intro K9 hK9; refine wp_region_lit ?_; refine xas rfl ?_; refine xas rfl ?_; refine wpList_nil ?_; refine tn ?_; refine hK9 _ _ ?_; clear hK9 K9
        refine wp_ret ?_; refine tr ?_; clear hK6 K6
        refine hQ _ _ _ ?_; refine r2 rfl rfl rfl H ?_
        rw [if_neg h0, e, if_neg]
        exact ⟨rfl, rfl⟩
        intro he; rw [he] at h1; simp at h1
      · have h1 : le [c0, c1, c2, c3] = crcSum (bs.take (bs.length - 4)) := by simp at h1; omega
        refine wp_skip ?_; refine tn ?_; refine hK6 _ _ ?_; clear hK6 K6; refine sq ?_; intro K9 hK9; refine wp_region_lit ?_; refine xmv rfl ?_; refine xmv rfl ?_
        refine xsl0 (h := bs.length - 4) rfl rfl (by omega) (by omega) ?_
        replace H := H.ownNil 5 1
        refine xap 0 H rfl rfl rfl (src_at (news := bv (bs.take (bs.length - 4))) 1 H rfl (bys_take hr _) (by simp)) (bv_one _) (by omega) (by simp only [maxLen]; omega) ?_; intro ao26 cap26 w H hn26
        refine xas rfl ?_; refine xas rfl ?_; refine wpList_nil ?_; refine tn ?_; refine hK9 _ _ ?_; clear hK9 K9; refine wp_ret ?_
        simp only [Nat.zero_add, List.nil_append] at H
        have el : (bs.take (bs.length - 4)).length = bs.length - 4 := by simp
        refine hQ _ _ _ ?_; refine r2 rfl rfl rfl H ?_
        rw [if_neg h0, e, if_pos h1]
        exact ⟨ao26, cap26, by simp only [Nat.zero_add, el], by rw [el]⟩
end Go.Proofs.YtegllbmkkfnajaaGreatDoor
end
