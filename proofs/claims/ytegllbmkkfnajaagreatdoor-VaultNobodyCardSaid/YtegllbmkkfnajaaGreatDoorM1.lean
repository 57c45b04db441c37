/-
  Own texts of this claim: walks of the functions, and what is reckoned of them.
-/
import Derived.WalkKit
import Derived.WalkLawsBesides
import Derived.WalkSpells
import Derived.OrdersHeld
import Derived.KernelRfl
import Derived.Laws.RangeString
import Derived.Laws.BytesString
import Derived.Maps.RangeRun
section
namespace Go.Proofs.YtegllbmkkfnajaaGreatDoor
open Go
abbrev Env := Nat → Option Value
def upd (ρ : Env) (d : Nat) (v : Value) : Env := fun t => bif Nat.beq t d then some v else ρ t
def mk (n : Nat) (ρ : Env) (ds : List Deferred) : Act := ⟨((List.range n).map fun t => (ρ t).getD undef).toArray, ds⟩
def ini : List Value → Env
  | [], _ => none
  | v :: _, 0 => some v
  | _ :: l, n + 1 => ini l n
def ev (n : Nat) (ρ : Env) : Operand → Option Value
  | .tmp t => bif Nat.blt t n then ρ t else none
  | .const v => some v
  | .global g => some (.pointer (some ⟨g, 0, none⟩))
  | .func f => some (.func (.func f) #[] #[])
def evl (n : Nat) (ρ : Env) : List Operand → Option (List Value)
  | [] => some []
  | x :: l => match ev n ρ x with
    | some v => match evl n ρ l with
      | some vs => some (v :: vs)
      | none => none
    | none => none
theorem beq_no {a b : Nat} (h : a ≠ b) : Nat.beq a b = false := by
  cases e : Nat.beq a b with
  | false => rfl
  | true => exact absurd (Nat.eq_of_beq_eq_true e) h
theorem blt_no {a b : Nat} (h : ¬ a < b) : Nat.blt a b = false := by
  cases e : Nat.blt a b with
  | false => rfl
  | true => exact absurd (Nat.le_of_ble_eq_true e) h
theorem blt_yes {a b : Nat} (h : a < b) : Nat.blt a b = true := Nat.ble_eq_true_of_le h
theorem upd_same (ρ : Env) (d : Nat) (v : Value) : upd ρ d v d = some v := by simp [upd]
theorem upd_ne {ρ : Env} {d t : Nat} {v : Value} (h : t ≠ d) : upd ρ d v t = ρ t := by
  unfold upd; rw [beq_no h]; rfl
theorem mk_getD (n : Nat) (ρ : Env) (ds : List Deferred) (t : Nat) : (mk n ρ ds).tmps.getD t undef = (ev n ρ (.tmp t)).getD undef := by
  simp only [mk, ev, Array.getD_eq_getD_getElem?, List.getElem?_toArray, List.getElem?_map, List.getElem?_range']
  by_cases h : t < n
  · rw [blt_yes h]; simp [h]
  · rw [blt_no h]; simp [h]
theorem mk_eval {n : Nat} {ρ : Env} {ds : List Deferred} {x : Operand} {v : Value} (h : ev n ρ x = some v) : (mk n ρ ds).eval x = v := by
  cases x with
  | tmp t => show (mk n ρ ds).tmps.getD t undef = v; rw [mk_getD, h]; rfl
  | const u => simp [ev] at h; exact h
  | global g => simp [ev] at h; exact h
  | func f => simp [ev] at h; exact h
theorem mk_evl {n : Nat} {ρ : Env} {ds : List Deferred} : ∀ {l : List Operand} {vs : List Value}, evl n ρ l = some vs → l.map (mk n ρ ds).eval = vs
  | [], vs, h => by simp [evl] at h; simp [h]
  | x :: l, vs, h => by
    simp only [evl] at h
    split at h
    · rename_i v hv
      split at h
      · rename_i us hu
        simp at h; subst h
        simp [mk_eval hv, mk_evl hu]
      · cases h
    · cases h
theorem mk_put (n : Nat) (ρ : Env) (ds : List Deferred) (d : Nat) (v : Value) : (mk n ρ ds).put (some d) v = mk n (upd ρ d v) ds := by
  simp only [mk, Act.put]
  congr 1
  apply Array.ext
  · simp
  · intro i h1 h2
    simp at h1 h2
    simp only [List.setIfInBounds_toArray, List.getElem_toArray, List.getElem_set, List.getElem_map, List.getElem_range]
    by_cases e : d = i
    · subst e; simp [upd_same]
    · rw [if_neg e, upd_ne (fun h => e h.symm)]
theorem mk_ini (n : Nat) (l : List Value) (h : l.length ≤ n) :
    ({ tmps := l.toArray ++ Array.replicate (n - l.toArray.size) undef, defers := [] } : Act) = mk n (ini l) [] := by
  simp only [mk, Act.mk.injEq, and_true]
  apply Array.ext
  · simp; omega
  · intro i h1 h2
    simp at h1 h2
    simp only [List.getElem_toArray, List.getElem_map, List.getElem_range]
    have key : ∀ (l : List Value) (i : Nat), ini l i = l[i]? := by
      intro l
      induction l with
      | nil => intro i; simp [ini]
      | cons v l ih => intro i; cases i with
        | zero => simp [ini]
        | succ i => simp [ini, ih]
    rw [key]
    by_cases hi : i < l.length
    · simp [Array.getElem_append, hi]
    · simp [Array.getElem_append, hi]
def regs (ρ : Env) : List (Nat × Value) → Env
  | [] => ρ
  | (t, v) :: l => upd (regs ρ l) t v
theorem regs_fold (ρ : Env) (l : List (Nat × Value)) (h : ∀ p ∈ l, ρ p.1 = some p.2) : regs ρ l = ρ := by
  induction l with
  | nil => rfl
  | cons p l ih =>
    obtain ⟨t, v⟩ := p
    simp only [regs]
    rw [ih (fun p hp => h p (List.mem_cons_of_mem _ hp))]
    funext u
    by_cases e : u = t
    · subst e; rw [upd_same]; exact (h (u, v) (List.mem_cons_self ..)).symm
    · rw [upd_ne e]
def Regs (ρ : Env) : List (Nat × Value) → Prop
  | [] => True
  | (t, v) :: l => ρ t = some v ∧ Regs ρ l
theorem Regs.eq {ρ : Env} {l : List (Nat × Value)} (h : Regs ρ l) : ρ = regs ρ l := by
  refine (regs_fold ρ l ?_).symm
  induction l with
  | nil => intro p hp; cases hp
  | cons q l ih =>
    obtain ⟨t, v⟩ := q
    intro p hp
    rcases List.mem_cons.1 hp with rfl | hp
    · exact h.1
    · exact ih h.2 p hp
section control
variable {P : Program} {n : Nat} {ρ : Env} {ds : List Deferred} {Q : Exit → Act → World → Prop} {w : World}
theorem if_ {c : Operand} {x y : Code} {b : Bool} (hc : ev n ρ c = some (.bool b)) (ht : b = true → x.wp P Q (mk n ρ ds) w) (hf : b = false → y.wp P Q (mk n ρ ds) w) : (Code.cond c x y).wp P Q (mk n ρ ds) w :=
  wp_cond_split (mk_eval hc) ht hf
theorem ift {c : Operand} {x y : Code} (hc : ev n ρ c = some (.bool true)) (ht : x.wp P Q (mk n ρ ds) w) : (Code.cond c x y).wp P Q (mk n ρ ds) w :=
  wp_cond_true (mk_eval hc) ht
theorem iff_ {c : Operand} {x y : Code} (hc : ev n ρ c = some (.bool false)) (ht : y.wp P Q (mk n ρ ds) w) : (Code.cond c x y).wp P Q (mk n ρ ds) w :=
  wp_cond_false (mk_eval hc) ht
theorem tn {K : Act → World → Prop} {a : Act} (h : K a w) : Exit.then K Q .normal a w := h
theorem tr {K : Act → World → Prop} {a : Act} (h : Q .ret a w) : Exit.then K Q .ret a w := h
theorem te {K : Act → World → Prop} {a : Act} {id : Nat} (h : Q (.exit id) a w) : Exit.then K Q (.exit id) a w := h
theorem tp {K : Act → World → Prop} {a : Act} {c : List PanicEntry} (h : Q (.panic c) a w) : Exit.then K Q (.panic c) a w := h
theorem br {a : Act} {id : Nat} (h : Q .ret a w) : Exit.inBlock id Q .ret a w := h
theorem bn {a : Act} {id : Nat} (h : Q .normal a w) : Exit.inBlock id Q .normal a w := h
theorem bp {a : Act} {id : Nat} {c : List PanicEntry} (h : Q (.panic c) a w) : Exit.inBlock id Q (.panic c) a w := h
theorem be {a : Act} {id : Nat} (h : Q .normal a w) : Exit.inBlock id Q (.exit id) a w := by simpa [Exit.inBlock] using h
theorem bo {a : Act} {id j : Nat} (hj : Nat.beq id j = false) (h : Q (.exit id) a w) : Exit.inBlock j Q (.exit id) a w := by
  have : ¬ id = j := fun e => by subst e; simp at hj
  simp only [Exit.inBlock]
  rw [if_neg this]; exact h
theorem sq {x y : Code} {a : Act} (h : ∀ K : Act → World → Prop, (∀ a w, y.wp P Q a w → K a w) → x.wp P (Exit.then K Q) a w) : (Code.seq x y).wp P Q a w := wp_seq_k h
end control
end Go.Proofs.YtegllbmkkfnajaaGreatDoor
end
section
namespace Go.Proofs.YtegllbmkkfnajaaGreatDoor
open Go Go.RowKit
structure Asn where
  at_ : World → (Nat → Prop) → Prop
  keep : ∀ {w w' : World} {F : Nat → Prop}, at_ w F → (∀ b, F b → w'.heap[b]? = w.heap[b]?) → at_ w' F
def Sep (w : World) : List Asn → (Nat → Prop) → Prop
  | [], F => ∀ b, ¬ F b
  | A :: L, F => ∃ F1 F2 : Nat → Prop, A.at_ w F1 ∧ Sep w L F2 ∧ (∀ b, F1 b → F2 b → False) ∧ ∀ b, F b ↔ F1 b ∨ F2 b
theorem Sep.keep {w w' : World} : ∀ {L : List Asn} {F : Nat → Prop}, Sep w L F → (∀ b, F b → w'.heap[b]? = w.heap[b]?) → Sep w' L F
  | [], _, h, _ => h
  | _ :: _, _, ⟨F1, F2, h1, h2, hd, hu⟩, hk =>
    ⟨F1, F2, Asn.keep _ h1 (fun b hb => hk b ((hu b).2 (.inl hb))), h2.keep (fun b hb => hk b ((hu b).2 (.inr hb))), hd, hu⟩
theorem Sep.append {w : World} {M : List Asn} : ∀ {L : List Asn} {F1 F2 F : Nat → Prop}, Sep w L F1 → Sep w M F2 → (∀ b, F1 b → F2 b → False) → (∀ b, F b ↔ F1 b ∨ F2 b) → Sep w (L ++ M) F
  | [], F1, F2, F, h1, h2, _, hu => by
    have e : F = F2 := by funext b; apply propext; rw [hu b]; exact ⟨fun h => h.resolve_left (h1 b), .inr⟩
    rw [e]; exact h2
  | A :: L, F1, F2, F, ⟨G1, G2, g1, g2, gd, gu⟩, h2, hd, hu => by
    refine ⟨G1, fun b => G2 b ∨ F2 b, g1, g2.append h2 (fun b x y => hd b ((gu b).2 (.inr x)) y) (fun _ => Iff.rfl), ?_, ?_⟩
    · intro b x y
      rcases y with y | y
      · exact gd b x y
      · exact hd b ((gu b).2 (.inl x)) y
    · intro b; rw [hu b, gu b, or_assoc]
theorem Sep.split {w : World} {M : List Asn} : ∀ {L : List Asn} {F : Nat → Prop}, Sep w (L ++ M) F → ∃ F1 F2, Sep w L F1 ∧ Sep w M F2 ∧ (∀ b, F1 b → F2 b → False) ∧ ∀ b, F b ↔ F1 b ∨ F2 b
  | [], F, h => ⟨fun _ => False, F, fun _ => id, h, fun _ x => x.elim, fun b => by simp⟩
  | A :: L, F, ⟨G1, G2, g1, g2, gd, gu⟩ => by
    obtain ⟨H1, H2, h1, h2, hd, hu⟩ := g2.split
    refine ⟨fun b => G1 b ∨ H1 b, H2, ⟨G1, H1, g1, h1, fun b x y => gd b x ((hu b).2 (.inl y)), fun _ => Iff.rfl⟩, h2, ?_, ?_⟩
    · intro b x y
      rcases x with x | x
      · exact gd b x ((hu b).2 (.inr y))
      · exact hd b x y
    · intro b; rw [gu b, hu b, or_assoc]
theorem Sep.perm {w : World} {L M : List Asn} (h : L.Perm M) : ∀ {F : Nat → Prop}, Sep w L F → Sep w M F := by
  induction h with
  | nil => exact id
  | cons A _ ih => intro F ⟨F1, F2, h1, h2, hd, hu⟩; exact ⟨F1, F2, h1, ih h2, hd, hu⟩
  | swap A B L =>
    intro F ⟨F1, F2, h1, ⟨G1, G2, g1, g2, gd, gu⟩, hd, hu⟩
    refine ⟨G1, fun b => F1 b ∨ G2 b, g1, ⟨F1, G2, h1, g2, fun b x y => hd b x ((gu b).2 (.inr y)), fun _ => Iff.rfl⟩, ?_, ?_⟩
    · intro b x y
      rcases y with y | y
      · exact hd b y ((gu b).2 (.inl x))
      · exact gd b x y
    · intro b; rw [hu b, gu b]; simp only [or_left_comm]
  | trans _ _ ih1 ih2 => intro F h; exact ih2 (ih1 h)
structure Ext (F : Nat → Prop) (w w' : World) : Prop where
  size : w.heap.size ≤ w'.heap.size
  old : ∀ b, b < w.heap.size → ¬ F b → w'.heap[b]? = w.heap[b]?
  tape : w'.tape = w.tape
  os : w'.os = w.os
  output : w'.output = w.output
theorem Ext.refl (F : Nat → Prop) (w : World) : Ext F w w := ⟨Nat.le_refl _, fun _ _ _ => rfl, rfl, rfl, rfl⟩
structure Gh where
  w0 : World
  F0 : Nat → Prop
def St (g : Gh) (w : World) (L : List Asn) : Prop :=
  ∃ F, Sep w L F ∧ (∀ b, F b → b < w.heap.size) ∧ (∀ b, F b → g.F0 b ∨ g.w0.heap.size ≤ b) ∧ Ext g.F0 g.w0 w
theorem St.perm {g : Gh} {w : World} {L M : List Asn} (h : L.Perm M) : St g w L → St g w M
  | ⟨F, h1, h2⟩ => ⟨F, h1.perm h, h2⟩
theorem St.start {w : World} {L : List Asn} {F : Nat → Prop} (h : Sep w L F) (hb : ∀ b, F b → b < w.heap.size) : St ⟨w, F⟩ w L :=
  ⟨F, h, hb, fun _ => .inl, Ext.refl _ _⟩
theorem St.drop {g : Gh} {w : World} {A : Asn} {L : List Asn} : St g w (A :: L) → St g w L
  | ⟨F, ⟨F1, F2, _, h2, _, hu⟩, hb, hf, he⟩ => ⟨F2, h2, fun b x => hb b ((hu b).2 (.inr x)), fun b x => hf b ((hu b).2 (.inr x)), he⟩
def takeAt : Nat → List Asn → Option (Asn × List Asn)
  | _, [] => none
  | 0, A :: L => some (A, L)
  | n + 1, A :: L => match takeAt n L with
    | some (B, M) => some (B, A :: M)
    | none => none
theorem takeAt_perm : ∀ {n : Nat} {L M : List Asn} {A : Asn}, takeAt n L = some (A, M) → L.Perm (A :: M)
  | n, [], M, A, h => by cases n <;> simp [takeAt] at h
  | 0, B :: L, M, A, h => by simp [takeAt] at h; obtain ⟨rfl, rfl⟩ := h; exact .refl _
  | n + 1, B :: L, M, A, h => by
    simp only [takeAt] at h
    split at h
    · rename_i C K hh
      simp at h; obtain ⟨rfl, rfl⟩ := h
      exact ((takeAt_perm hh).cons B).trans (.swap _ _ _)
    · cases h
def pick : List Nat → List Asn → Option (List Asn × List Asn)
  | [], L => some ([], L)
  | k :: ks, L => match takeAt k L with
    | some (A, M) => match pick ks M with
      | some (S, R) => some (A :: S, R)
      | none => none
    | none => none
theorem pick_perm : ∀ {ks : List Nat} {L S R : List Asn}, pick ks L = some (S, R) → L.Perm (S ++ R)
  | [], L, S, R, h => by simp [pick] at h; obtain ⟨rfl, rfl⟩ := h; exact .refl _
  | k :: ks, L, S, R, h => by
    simp only [pick] at h
    split at h
    · rename_i A M hh
      split at h
      · rename_i S' R' hh'
        simp at h; obtain ⟨rfl, rfl⟩ := h
        exact (takeAt_perm hh).trans ((pick_perm hh').cons A)
      · cases h
    · cases h
theorem St.front {g : Gh} {w : World} {L M : List Asn} {A : Asn} (k : Nat) (h : St g w L) (hk : takeAt k L = some (A, M)) : St g w (A :: M) := h.perm (takeAt_perm hk)
theorem St.pick {g : Gh} {w : World} {L S R : List Asn} (ks : List Nat) (h : St g w L) (hk : Go.Proofs.YtegllbmkkfnajaaGreatDoor.pick ks L = some (S, R)) : St g w (S ++ R) := h.perm (pick_perm hk)
theorem frame_core {g : Gh} {w w' : World} {R S' : List Asn} {F F1 F2 : Nat → Prop} (h2 : Sep w R F2) (hd : ∀ b, F1 b → F2 b → False) (hu : ∀ b, F b ↔ F1 b ∨ F2 b)
    (hb : ∀ b, F b → b < w.heap.size) (hf : ∀ b, F b → g.F0 b ∨ g.w0.heap.size ≤ b) (he : Ext g.F0 g.w0 w) (hs : St ⟨w, F1⟩ w' S') : St g w' (S' ++ R) := by
  obtain ⟨F', h1', hb', hf', he'⟩ := hs
  have hd' : ∀ b, F' b → F2 b → False := fun b x y => by
    rcases hf' b x with z | z
    · exact hd b z y
    · exact absurd (hb b ((hu b).2 (.inr y))) (Nat.not_lt.2 z)
  refine ⟨fun b => F' b ∨ F2 b, h1'.append (h2.keep (fun b x => he'.old b (hb b ((hu b).2 (.inr x))) (fun z => hd b z x))) hd' (fun _ => Iff.rfl), ?_, ?_, ?_⟩
  · intro b x
    rcases x with x | x
    · exact hb' b x
    · exact Nat.lt_of_lt_of_le (hb b ((hu b).2 (.inr x))) he'.size
  · intro b x
    rcases x with x | x
    · rcases hf' b x with z | z
      · exact hf b ((hu b).2 (.inl z))
      · exact .inr (Nat.le_trans he.size z)
    · exact hf b ((hu b).2 (.inr x))
  · refine ⟨Nat.le_trans he.size he'.size, fun b hlt hn => ?_, he'.tape.trans he.tape, he'.os.trans he.os, he'.output.trans he.output⟩
    have hn1 : ¬ F1 b := fun z => by
      rcases hf b ((hu b).2 (.inl z)) with y | y
      · exact hn y
      · exact absurd hlt (Nat.not_lt.2 y)
    exact (he'.old b (Nat.lt_of_lt_of_le hlt he.size) hn1).trans (he.old b hlt hn)
theorem St.frame {g : Gh} {w w' : World} {S R S' : List Asn} (h : St g w (S ++ R))
    (hs : ∀ g', St g' w S → St g' w' S') : St g w' (S' ++ R) := by
  obtain ⟨F, hF, hb, hf, he⟩ := h
  obtain ⟨F1, F2, h1, h2, hd, hu⟩ := hF.split
  exact frame_core h2 hd hu hb hf he (hs ⟨w, F1⟩ (St.start h1 (fun b x => hb b ((hu b).2 (.inl x)))))
theorem St.frame1 {g : Gh} {w w' : World} {A : Asn} {R S' : List Asn} (h : St g w (A :: R))
    (hs : ∀ g', St g' w [A] → St g' w' S') : St g w' (S' ++ R) := St.frame (S := [A]) h hs
theorem St.frame0 {g : Gh} {w w' : World} {R S' : List Asn} (h : St g w R)
    (hs : ∀ g', St g' w [] → St g' w' S') : St g w' (S' ++ R) := St.frame (S := []) h hs
def Asn.cell (A : Asn) (a : Addr) (v : Value) : Prop := ∀ w F, A.at_ w F → w.cell? a = some v
def nthA : List Asn → Nat → Option Asn
  | [], _ => none
  | A :: _, 0 => some A
  | _ :: L, n + 1 => nthA L n
theorem Sep.nth {w : World} : ∀ {L : List Asn} {F : Nat → Prop} {k : Nat} {A : Asn}, Sep w L F → nthA L k = some A → ∃ F1, A.at_ w F1
  | [], _, _, _, _, h => by simp [nthA] at h
  | B :: L, F, 0, A, ⟨F1, _, h1, _⟩, h => by simp [nthA] at h; subst h; exact ⟨F1, h1⟩
  | B :: L, F, k + 1, A, ⟨_, F2, _, h2, _⟩, h => h2.nth h
theorem St.nth {g : Gh} {w : World} {L : List Asn} {k : Nat} {A : Asn} (h : St g w L) (hk : nthA L k = some A) : ∃ F1, A.at_ w F1 := by
  obtain ⟨F, hF, _⟩ := h; exact hF.nth hk
theorem St.cell {g : Gh} {w : World} {L : List Asn} {k : Nat} {A : Asn} {a : Addr} {v : Value} (h : St g w L) (hk : nthA L k = some A) (hc : A.cell a v) : w.cell? a = some v := by
  obtain ⟨F, hF⟩ := h.nth hk; exact hc w F hF
def obj (b : Nat) (o : Obj) : Asn where
  at_ w F := (∀ x, F x ↔ x = b) ∧ w.heap[b]? = some o
  keep := fun ⟨h1, h2⟩ hk => ⟨h1, (hk _ ((h1 _).2 rfl)).trans h2⟩
def blk (b : Nat) (c : List Value) (T : TypeId) : Asn := obj b (.cells c.toArray T (0, 0))
def nthV : List Value → Nat → Option Value
  | [], _ => none
  | v :: _, 0 => some v
  | _ :: l, n + 1 => nthV l n
theorem nthV_eq : ∀ (l : List Value) (n : Nat), nthV l n = l[n]?
  | [], n => by simp [nthV]
  | v :: l, 0 => by simp [nthV]
  | v :: l, n + 1 => by simp [nthV, nthV_eq l n]
theorem cell_of_heap {w : World} {b o : Nat} {c : Array Value} {T : TypeId} {fr : Nat × Nat} (h : w.heap[b]? = some (.cells c T fr)) : w.cell? ⟨b, o, none⟩ = c[o]? := by
  simp [World.cell?, h]
theorem blk_cell {b o : Nat} {c : List Value} {T : TypeId} {v : Value} (h : nthV c o = some v) : (blk b c T).cell ⟨b, o, none⟩ v := by
  intro w F ⟨_, hh⟩
  rw [cell_of_heap hh]; simpa [nthV_eq] using h
def setV : List Value → Nat → Value → List Value
  | [], _, _ => []
  | _ :: l, 0, v => v :: l
  | u :: l, n + 1, v => u :: setV l n v
theorem setV_eq : ∀ (l : List Value) (n : Nat) (v : Value), setV l n v = l.set n v
  | [], n, v => by simp [setV]
  | u :: l, 0, v => by simp [setV]
  | u :: l, n + 1, v => by simp [setV, setV_eq l n v]
theorem St.alloc {g : Gh} {w : World} {L : List Asn} (o : Obj) (h : St g w L) : St g (w.alloc o) (obj w.heap.size o :: L) := by
  refine St.frame0 (S' := [obj w.heap.size o]) h (fun g' h' => ?_)
  obtain ⟨F, hF, hb, hf, he⟩ := h'
  refine ⟨fun b => b = w.heap.size, ⟨fun b => b = w.heap.size, fun _ => False, ⟨fun _ => Iff.rfl, heap_alloc_new w o⟩, fun _ => id, fun _ _ x => x, fun b => by simp⟩, ?_, ?_, ?_⟩
  · intro b x; subst x; simp
  · intro b x; subst x; exact .inr he.size
  · exact ⟨Nat.le_trans he.size (by simp), fun b hlt hn => (Below.heap_alloc w o b (Nat.lt_of_lt_of_le hlt he.size)).trans (he.old b hlt hn), he.tape, he.os, he.output⟩
theorem St.drew {g : Gh} {w : World} {L : List Asn} (h : St g w L) : St g w.drew L := by
  obtain ⟨F, hF, hb, hf, he⟩ := h
  exact ⟨F, hF.keep (fun _ _ => rfl), hb, hf, ⟨he.size, he.old, he.tape, he.os, he.output⟩⟩
theorem St.setObj {g : Gh} {w w' : World} {L : List Asn} {b : Nat} {o o' : Obj} (h : St g w (obj b o :: L)) (hs : w'.heap.size = w.heap.size) (hn : w'.heap[b]? = some o')
    (hk : ∀ k, k ≠ b → w'.heap[k]? = w.heap[k]?) (ht : w'.tape = w.tape) (ho : w'.os = w.os) (hout : w'.output = w.output) : St g w' (obj b o' :: L) := by
  refine St.frame1 (S' := [obj b o']) h (fun g' h' => ?_)
  obtain ⟨F, hF, hb, hf, he⟩ := h'
  obtain ⟨F1, F2, ⟨h1, h2⟩, h3, hd, hu⟩ := hF
  refine ⟨F, ⟨F1, F2, ⟨h1, hn⟩, h3, hd, hu⟩, fun x hx => hs ▸ hb x hx, hf, ⟨hs ▸ he.size, fun x hlt hx => ?_, ht.trans he.tape, ho.trans he.os, hout.trans he.output⟩⟩
  have hne : x ≠ b := fun e => by
    subst e
    rcases hf x ((hu x).2 (.inl ((h1 x).2 rfl))) with y | y
    · exact hx y
    · exact absurd hlt (Nat.not_lt.2 y)
  exact (hk x hne).trans (he.old x hlt hx)
theorem St.setCell {g : Gh} {w : World} {L : List Asn} {b o : Nat} {c : List Value} {T : TypeId} (v : Value) (h : St g w (blk b c T :: L)) : St g (w.setCell ⟨b, o, none⟩ v) (blk b (setV c o v) T :: L) := by
  obtain ⟨F, hF⟩ := h.nth (k := 0) rfl
  refine St.setObj h (by simp) ?_ (fun k hk => ?_) rfl rfl rfl
  · simp only [World.setCell, Array.getElem?_modify, if_true, hF.2, Option.map_some, setV_eq]
    simp
  · simp only [World.setCell, Array.getElem?_modify]; rw [if_neg (fun e => hk e.symm)]
def Fn (P : Program) (f : FuncId) (args : List Value) (L : List Asn) (R : Ending → List Asn → Prop) : Prop :=
  (∀ w, (callFunc f args.toArray).run P w = .ok (.enter f args.toArray) w) ∧
  ∀ g w, St g w L → Calls P f args.toArray w fun e w' => ∃ L', R e L' ∧ St g w' L'
theorem Fn.mono {P : Program} {f : FuncId} {args : List Value} {L : List Asn} {R R' : Ending → List Asn → Prop} (h : Fn P f args L R) (hr : ∀ e L', R e L' → R' e L') : Fn P f args L R' :=
  ⟨h.1, fun g w H => (h.2 g w H).mono fun _ _ ⟨L', r, s⟩ => ⟨L', hr _ _ r, s⟩⟩
theorem Fn.args {P : Program} {f : FuncId} {args args' : List Value} {L : List Asn} {R : Ending → List Asn → Prop} (h : Fn P f args L R) (e : args = args') : Fn P f args' L R := e ▸ h
theorem Fn.intro {P : Program} {f : FuncId} {fn : Func} {c : Code} {args : List Value} {L : List Asn} {R : Ending → List Asn → Prop} {n : Nat}
    (hc : ∀ (xas : Array Value) w, (callFunc f xas).run P w = .ok (.enter f xas) w) (hf : P.funcs[f]? = some fn) (hb : fn.body = some c) (hn : fn.ntmps = n) (hl : Nat.ble args.length n = true)
    (h : ∀ g w (Q : Exit → Act → World → Prop), (∀ e a w, bodyPost P fn (fun e w' => ∃ L', R e L' ∧ St g w' L') e a w → Q e a w) → St g w L → c.wp P Q (mk n (ini args) []) w) : Fn P f args L R := by
  subst hn
  exact ⟨fun w => hc _ w, fun g w H => calls_of_wp hf hb (by rw [mk_ini _ _ (Nat.le_of_ble_eq_true hl)]; exact h g w _ (fun _ _ _ => id) H)⟩
theorem Fn.calls {P : Program} {f : FuncId} {args : List Value} {L S M : List Asn} {R : Ending → List Asn → Prop} {g : Gh} {w : World} (ks : List Nat)
    (h : Fn P f args S R) (H : St g w L) (hk : pick ks L = some (S, M)) : Calls P f args.toArray w fun e w' => ∃ L', R e L' ∧ St g w' (L' ++ M) := by
  intro cs
  have H1 := St.pick ks H hk
  obtain ⟨F, hF, hb, hf, he⟩ := H1
  obtain ⟨F1, F2, h1, h2, hd, hu⟩ := hF.split
  obtain ⟨e, w', fr, ⟨L', hR, hS⟩, rest⟩ := h.2 ⟨w, F1⟩ w (St.start h1 (fun b x => hb b ((hu b).2 (.inl x)))) cs
  exact ⟨e, w', fr, ⟨L', hR, frame_core h2 hd hu hb hf he hS⟩, rest⟩
end Go.Proofs.YtegllbmkkfnajaaGreatDoor
end
section
namespace Go.Proofs.YtegllbmkkfnajaaGreatDoor
open Go Go.RowKit
class TSc (P : Program) (T : TypeId) : Prop where
  out : ∀ w, (isAgg T).run P w = .ok false w
  size : ∀ w, (sizeOf T).run P w = .ok 1 w
class TAg (P : Program) (T : TypeId) (n : outParam Nat) : Prop where
  out : ∀ w, (isAgg T).run P w = .ok true w
  size : ∀ w, (sizeOf T).run P w = .ok n w
class TSz (P : Program) (T : TypeId) (n : outParam Nat) : Prop where
  size : ∀ w, (sizeOf T).run P w = .ok n w
class TFo (P : Program) (T i : Nat) (o : outParam Nat) : Prop where
  out : ∀ b off w, (Instr.fieldAt T (.pointer (some ⟨b, off, none⟩)) i).run P w = .ok (.pointer (some ⟨b, off + o, none⟩)) w
class TZ (P : Program) (T : TypeId) (z : outParam (List Value)) : Prop where
  out : ∀ w, ∃ v, (zeroValue T).run P w = .ok v w ∧ v.cells = z.toArray
class TInt (P : Program) (T : TypeId) (k : outParam IntKind) : Prop where
  out : P.underlying T = some (.int k)
class TStr (P : Program) (T : TypeId) : Prop where
  out : P.underlying T = some .string
class TSl (P : Program) (T : TypeId) (E : outParam TypeId) (sz : outParam Nat) : Prop where
  out : P.underlying T = some (.slice E)
  size : ∀ w, (sizeOf E).run P w = .ok sz w
class TAr (P : Program) (T : TypeId) (n : outParam Nat) (E : outParam TypeId) (sz : outParam Nat) : Prop where
  out : P.underlying T = some (.array n E)
  size : ∀ w, (sizeOf E).run P w = .ok sz w
class TPt (P : Program) (T : TypeId) (E : outParam TypeId) : Prop where
  out : P.underlying T = some (.pointer E)
class TMp (P : Program) (T : TypeId) (K : outParam TypeId) (E : outParam TypeId) : Prop where
  out : P.underlying T = some (.map K E)
def bitsI (op : BinOp) (k : IntKind) (x y : Int) : Int :=
  let a := BitVec.ofInt k.bits x
  let b := BitVec.ofInt k.bits y
  match op with
  | .and => k.wrap (a &&& b).toNat
  | .or => k.wrap (a ||| b).toNat
  | .xor => k.wrap (a ^^^ b).toNat
  | .andNot => k.wrap (a &&& ~~~b).toNat
  | _ => 0
section
variable {P : Program} {ops : Array Oper} {Q : Exit → Act → World → Prop} {rest : List Oper} {n d ty : Nat} {pos : String} {af : Array Edge} {ρ : Env} {ds : List Deferred} {w w' : World} {g : Gh} {L : List Asn}
theorem pointee_of {T E : TypeId} (h : P.underlying T = some (.pointer E)) : P.underlying T = some (.pointer (P.pointee T)) := by simp [Program.pointee, h]
theorem st_val {op : Op} {v : Value} (hr : (execOp (mk n ρ ds).eval ⟨some d, op, ty, pos, af, none⟩).run P w = .ok (.value v) w') (h : wpList P ops Q rest (mk n (upd ρ d v) ds) w') :
    wpList P ops Q (⟨some d, op, ty, pos, af, none⟩ :: rest) (mk n ρ ds) w :=
  wpList_plain rfl fun K hK => by
    unfold Oper.wp; rw [hr]; show K ((mk n ρ ds).put (some d) v) w'; rw [mk_put]; exact hK _ _ h
theorem st_skip {op : Op} (hr : (execOp (mk n ρ ds).eval ⟨none, op, ty, pos, af, none⟩).run P w = .ok .skip w') (h : wpList P ops Q rest (mk n ρ ds) w') :
    wpList P ops Q (⟨none, op, ty, pos, af, none⟩ :: rest) (mk n ρ ds) w :=
  wpList_plain rfl fun K hK => by
    unfold Oper.wp; rw [hr]; exact hK _ _ h
theorem st_void {op : Op} {v : Value} (hr : (execOp (mk n ρ ds).eval ⟨none, op, ty, pos, af, none⟩).run P w = .ok (.value v) w') (h : wpList P ops Q rest (mk n ρ ds) w') :
    wpList P ops Q (⟨none, op, ty, pos, af, none⟩ :: rest) (mk n ρ ds) w :=
  wpList_plain rfl fun K hK => by
    unfold Oper.wp; rw [hr]; exact hK _ _ h
def guardTmp (ops : Array Oper) (j : Nat) : Option Tmp := match ops.toList[j]? with | some o => o.dst | none => none
theorem yielded_mk {j t : Nat} {b : Bool} (hj : guardTmp ops j = some t) (hv : ev n ρ (.tmp t) = some (.bool b)) : yielded ops (mk n ρ ds).tmps j = some b := by
  have hd : (ops[j]?).bind (·.dst) = some t := by
    unfold guardTmp at hj
    rw [Array.getElem?_toList] at hj
    cases h : ops[j]? with
    | none => rw [h] at hj; cases hj
    | some o => rw [h] at hj; simpa using hj
  have he : (mk n ρ ds).eval (.tmp t) = .bool b := mk_eval hv
  unfold yielded
  rw [hd]
  simp only [Act.eval, Array.getD_eq_getD_getElem?] at he
  cases h : (mk n ρ ds).tmps[t]? with
  | none => rw [h] at he; simp [undef] at he
  | some v => rw [h] at he; simp at he; subst he; simp [h]
theorem xgn {op : Op} {dst : Option Tmp} {j t : Nat} {b b' : Bool} (hj : guardTmp ops j = some t) (hv : ev n ρ (.tmp t) = some (.bool b')) (hne : (b' == b) = false)
    (h : wpList P ops Q rest (match dst with | some d => mk n (upd ρ d undef) ds | none => mk n ρ ds) w) :
    wpList P ops Q (⟨dst, op, ty, pos, af, some (j, b)⟩ :: rest) (mk n ρ ds) w := by
  unfold wpList
  rw [if_neg (by simp only [Region.wanted, yielded_mk hj hv]; intro e; simp at e; subst e; simp at hne)]
  cases dst with
  | none => exact h
  | some d => rw [mk_put]; exact h
theorem xgy {op : Op} {dst : Option Tmp} {j t : Nat} {b b' : Bool} (hj : guardTmp ops j = some t) (hv : ev n ρ (.tmp t) = some (.bool b')) (hne : (b' == b) = true)
    (h : wpList P ops Q (⟨dst, op, ty, pos, af, none⟩ :: rest) (mk n ρ ds) w) :
    wpList P ops Q (⟨dst, op, ty, pos, af, some (j, b)⟩ :: rest) (mk n ρ ds) w := by
  unfold wpList at h ⊢
  rw [if_pos (by simp only [Region.wanted, yielded_mk hj hv]; simpa using hne)]
  rw [if_pos (by simp [Region.wanted])] at h
  exact h
theorem ymv {x : Operand} {v : Value} (hx : ev n ρ x = some v)
    (w : World) : (execOp (mk n ρ ds).eval ⟨some d, .move x, ty, pos, af, none⟩).run P w = .ok (.value (v)) w := by simp [execOp, mk_eval hx]
theorem xmv {x : Operand} {v : Value} (hx : ev n ρ x = some v)
    (h : wpList P ops Q rest (mk n (upd ρ d (v)) ds) w) : wpList P ops Q (⟨some d, .move x, ty, pos, af, none⟩ :: rest) (mk n ρ ds) w :=
  st_val (ymv hx w) h
theorem yas {x : Operand} {v : Value} (hx : ev n ρ x = some v)
    (w : World) : (execOp (mk n ρ ds).eval ⟨some d, .assign x, ty, pos, af, none⟩).run P w = .ok (.value (v)) w := by simp [execOp, mk_eval hx]
theorem xas {x : Operand} {v : Value} (hx : ev n ρ x = some v)
    (h : wpList P ops Q rest (mk n (upd ρ d (v)) ds) w) : wpList P ops Q (⟨some d, .assign x, ty, pos, af, none⟩ :: rest) (mk n ρ ds) w :=
  st_val (yas hx w) h
theorem ync {x : Operand} {a : Addr} (hx : ev n ρ x = some (.pointer (some a)))
    (w : World) : (execOp (mk n ρ ds).eval ⟨some d, .nilCheck x, ty, pos, af, none⟩).run P w = .ok (.value (.pointer (some a))) w := by simp [execOp, mk_eval hx]
theorem xnc {x : Operand} {a : Addr} (hx : ev n ρ x = some (.pointer (some a)))
    (h : wpList P ops Q rest (mk n (upd ρ d (.pointer (some a))) ds) w) : wpList P ops Q (⟨some d, .nilCheck x, ty, pos, af, none⟩ :: rest) (mk n ρ ds) w :=
  st_val (ync hx w) h
theorem yfa {x : Operand} {T i b off o : Nat} [TFo P T i o] (hx : ev n ρ x = some (.pointer (some ⟨b, off, none⟩)))
    (w : World) : (execOp (mk n ρ ds).eval ⟨some d, .fieldAddr T x i, ty, pos, af, none⟩).run P w = .ok (.value (.pointer (some ⟨b, off + o, none⟩))) w := by simp only [execOp, mk_eval hx]; rw [Sem.run_bind, TFo.out]; rfl
theorem xfa {x : Operand} {T i b off o : Nat} [TFo P T i o] (hx : ev n ρ x = some (.pointer (some ⟨b, off, none⟩)))
    (h : wpList P ops Q rest (mk n (upd ρ d (.pointer (some ⟨b, off + o, none⟩))) ds) w) : wpList P ops Q (⟨some d, .fieldAddr T x i, ty, pos, af, none⟩ :: rest) (mk n ρ ds) w :=
  st_val (yfa hx w) h
theorem ypkt {c x y : Operand} {v : Value} (hc : ev n ρ c = some (.bool true)) (hx : ev n ρ x = some v)
    (w : World) : (execOp (mk n ρ ds).eval ⟨some d, .pick c x y, ty, pos, af, none⟩).run P w = .ok (.value (v)) w := by simp [execOp, mk_eval hc, mk_eval hx, asBool]
theorem xpkt {c x y : Operand} {v : Value} (hc : ev n ρ c = some (.bool true)) (hx : ev n ρ x = some v)
    (h : wpList P ops Q rest (mk n (upd ρ d (v)) ds) w) : wpList P ops Q (⟨some d, .pick c x y, ty, pos, af, none⟩ :: rest) (mk n ρ ds) w :=
  st_val (ypkt hc hx w) h
theorem ypkf {c x y : Operand} {v : Value} (hc : ev n ρ c = some (.bool false)) (hx : ev n ρ y = some v)
    (w : World) : (execOp (mk n ρ ds).eval ⟨some d, .pick c x y, ty, pos, af, none⟩).run P w = .ok (.value (v)) w := by simp [execOp, mk_eval hc, mk_eval hx, asBool]
theorem xpkf {c x y : Operand} {v : Value} (hc : ev n ρ c = some (.bool false)) (hx : ev n ρ y = some v)
    (h : wpList P ops Q rest (mk n (upd ρ d (v)) ds) w) : wpList P ops Q (⟨some d, .pick c x y, ty, pos, af, none⟩ :: rest) (mk n ρ ds) w :=
  st_val (ypkf hc hx w) h
theorem ynt {x : Operand} {T : Nat} {b : Bool} (hx : ev n ρ x = some (.bool b))
    (w : World) : (execOp (mk n ρ ds).eval ⟨some d, .unOp .not T x, ty, pos, af, none⟩).run P w = .ok (.value (.bool (!b))) w := by simp [execOp, mk_eval hx, Op.unary]
theorem xnt {x : Operand} {T : Nat} {b : Bool} (hx : ev n ρ x = some (.bool b))
    (h : wpList P ops Q rest (mk n (upd ρ d (.bool (!b))) ds) w) : wpList P ops Q (⟨some d, .unOp .not T x, ty, pos, af, none⟩ :: rest) (mk n ρ ds) w :=
  st_val (ynt hx w) h
theorem yntt {x : Operand} {T : Nat} (hx : ev n ρ x = some (.bool true))
    (w : World) : (execOp (mk n ρ ds).eval ⟨some d, .unOp .not T x, ty, pos, af, none⟩).run P w = .ok (.value (.bool false)) w := by simp [execOp, mk_eval hx, Op.unary]
theorem xntt {x : Operand} {T : Nat} (hx : ev n ρ x = some (.bool true))
    (h : wpList P ops Q rest (mk n (upd ρ d (.bool false)) ds) w) : wpList P ops Q (⟨some d, .unOp .not T x, ty, pos, af, none⟩ :: rest) (mk n ρ ds) w :=
  st_val (yntt hx w) h
theorem yntf {x : Operand} {T : Nat} (hx : ev n ρ x = some (.bool false))
    (w : World) : (execOp (mk n ρ ds).eval ⟨some d, .unOp .not T x, ty, pos, af, none⟩).run P w = .ok (.value (.bool true)) w := by simp [execOp, mk_eval hx, Op.unary]
theorem xntf {x : Operand} {T : Nat} (hx : ev n ρ x = some (.bool false))
    (h : wpList P ops Q rest (mk n (upd ρ d (.bool true)) ds) w) : wpList P ops Q (⟨some d, .unOp .not T x, ty, pos, af, none⟩ :: rest) (mk n ρ ds) w :=
  st_val (yntf hx w) h
theorem yex {x : Operand} {i : Nat} {vs : List Value} {v : Value} (hx : ev n ρ x = some (.tuple vs.toArray)) (hv : nthV vs i = some v)
    (w : World) : (execOp (mk n ρ ds).eval ⟨some d, .extract x i, ty, pos, af, none⟩).run P w = .ok (.value (v)) w := by rw [nthV_eq] at hv; simp [execOp, mk_eval hx, Instr.extract, hv]
theorem xex {x : Operand} {i : Nat} {vs : List Value} {v : Value} (hx : ev n ρ x = some (.tuple vs.toArray)) (hv : nthV vs i = some v)
    (h : wpList P ops Q rest (mk n (upd ρ d (v)) ds) w) : wpList P ops Q (⟨some d, .extract x i, ty, pos, af, none⟩ :: rest) (mk n ρ ds) w :=
  st_val (yex hx hv w) h
theorem yad {x y : Operand} {T U : Nat} {k : IntKind} {a b : Int} (hx : ev n ρ x = some (.int k a)) (hy : ev n ρ y = some (.int k b))
    (w : World) : (execOp (mk n ρ ds).eval ⟨some d, .binOp .add T x y U, ty, pos, af, none⟩).run P w = .ok (.value (.int k (k.wrap (a + b)))) w := by simp [execOp, mk_eval hx, mk_eval hy, eqGuard, binOp, Op.intArith]
theorem xad {x y : Operand} {T U : Nat} {k : IntKind} {a b : Int} (hx : ev n ρ x = some (.int k a)) (hy : ev n ρ y = some (.int k b))
    (h : wpList P ops Q rest (mk n (upd ρ d (.int k (k.wrap (a + b)))) ds) w) : wpList P ops Q (⟨some d, .binOp .add T x y U, ty, pos, af, none⟩ :: rest) (mk n ρ ds) w :=
  st_val (yad hx hy w) h
theorem yadi {x y : Operand} {T U : Nat} {k : IntKind} {a b : Int} (hx : ev n ρ x = some (.int k a)) (hy : ev n ρ y = some (.int k b)) (hw : k.wrap (a + b) = a + b)
    (w : World) : (execOp (mk n ρ ds).eval ⟨some d, .binOp .add T x y U, ty, pos, af, none⟩).run P w = .ok (.value (.int k (a + b))) w := by simp [execOp, mk_eval hx, mk_eval hy, eqGuard, binOp, Op.intArith, hw]
theorem xadi {x y : Operand} {T U : Nat} {k : IntKind} {a b : Int} (hx : ev n ρ x = some (.int k a)) (hy : ev n ρ y = some (.int k b)) (hw : k.wrap (a + b) = a + b)
    (h : wpList P ops Q rest (mk n (upd ρ d (.int k (a + b))) ds) w) : wpList P ops Q (⟨some d, .binOp .add T x y U, ty, pos, af, none⟩ :: rest) (mk n ρ ds) w :=
  st_val (yadi hx hy hw w) h
theorem ysb {x y : Operand} {T U : Nat} {k : IntKind} {a b : Int} (hx : ev n ρ x = some (.int k a)) (hy : ev n ρ y = some (.int k b))
    (w : World) : (execOp (mk n ρ ds).eval ⟨some d, .binOp .sub T x y U, ty, pos, af, none⟩).run P w = .ok (.value (.int k (k.wrap (a - b)))) w := by simp [execOp, mk_eval hx, mk_eval hy, eqGuard, binOp, Op.intArith]
theorem xsb {x y : Operand} {T U : Nat} {k : IntKind} {a b : Int} (hx : ev n ρ x = some (.int k a)) (hy : ev n ρ y = some (.int k b))
    (h : wpList P ops Q rest (mk n (upd ρ d (.int k (k.wrap (a - b)))) ds) w) : wpList P ops Q (⟨some d, .binOp .sub T x y U, ty, pos, af, none⟩ :: rest) (mk n ρ ds) w :=
  st_val (ysb hx hy w) h
theorem ysbi {x y : Operand} {T U : Nat} {k : IntKind} {a b : Int} (hx : ev n ρ x = some (.int k a)) (hy : ev n ρ y = some (.int k b)) (hw : k.wrap (a - b) = a - b)
    (w : World) : (execOp (mk n ρ ds).eval ⟨some d, .binOp .sub T x y U, ty, pos, af, none⟩).run P w = .ok (.value (.int k (a - b))) w := by simp [execOp, mk_eval hx, mk_eval hy, eqGuard, binOp, Op.intArith, hw]
theorem xsbi {x y : Operand} {T U : Nat} {k : IntKind} {a b : Int} (hx : ev n ρ x = some (.int k a)) (hy : ev n ρ y = some (.int k b)) (hw : k.wrap (a - b) = a - b)
    (h : wpList P ops Q rest (mk n (upd ρ d (.int k (a - b))) ds) w) : wpList P ops Q (⟨some d, .binOp .sub T x y U, ty, pos, af, none⟩ :: rest) (mk n ρ ds) w :=
  st_val (ysbi hx hy hw w) h
theorem yml {x y : Operand} {T U : Nat} {k : IntKind} {a b : Int} (hx : ev n ρ x = some (.int k a)) (hy : ev n ρ y = some (.int k b))
    (w : World) : (execOp (mk n ρ ds).eval ⟨some d, .binOp .mul T x y U, ty, pos, af, none⟩).run P w = .ok (.value (.int k (k.wrap (a * b)))) w := by simp [execOp, mk_eval hx, mk_eval hy, eqGuard, binOp, Op.intArith]
theorem xml {x y : Operand} {T U : Nat} {k : IntKind} {a b : Int} (hx : ev n ρ x = some (.int k a)) (hy : ev n ρ y = some (.int k b))
    (h : wpList P ops Q rest (mk n (upd ρ d (.int k (k.wrap (a * b)))) ds) w) : wpList P ops Q (⟨some d, .binOp .mul T x y U, ty, pos, af, none⟩ :: rest) (mk n ρ ds) w :=
  st_val (yml hx hy w) h
theorem ymli {x y : Operand} {T U : Nat} {k : IntKind} {a b : Int} (hx : ev n ρ x = some (.int k a)) (hy : ev n ρ y = some (.int k b)) (hw : k.wrap (a * b) = a * b)
    (w : World) : (execOp (mk n ρ ds).eval ⟨some d, .binOp .mul T x y U, ty, pos, af, none⟩).run P w = .ok (.value (.int k (a * b))) w := by simp [execOp, mk_eval hx, mk_eval hy, eqGuard, binOp, Op.intArith, hw]
theorem xmli {x y : Operand} {T U : Nat} {k : IntKind} {a b : Int} (hx : ev n ρ x = some (.int k a)) (hy : ev n ρ y = some (.int k b)) (hw : k.wrap (a * b) = a * b)
    (h : wpList P ops Q rest (mk n (upd ρ d (.int k (a * b))) ds) w) : wpList P ops Q (⟨some d, .binOp .mul T x y U, ty, pos, af, none⟩ :: rest) (mk n ρ ds) w :=
  st_val (ymli hx hy hw w) h
theorem yqu {x y : Operand} {T U : Nat} {k : IntKind} {a b : Int} (hx : ev n ρ x = some (.int k a)) (hy : ev n ρ y = some (.int k b)) (hb : b ≠ 0)
    (w : World) : (execOp (mk n ρ ds).eval ⟨some d, .binOp .quo T x y U, ty, pos, af, none⟩).run P w = .ok (.value (.int k (k.wrap (a.tdiv b)))) w := by simp [execOp, mk_eval hx, mk_eval hy, eqGuard, binOp, Op.intDiv, hb]
theorem xqu {x y : Operand} {T U : Nat} {k : IntKind} {a b : Int} (hx : ev n ρ x = some (.int k a)) (hy : ev n ρ y = some (.int k b)) (hb : b ≠ 0)
    (h : wpList P ops Q rest (mk n (upd ρ d (.int k (k.wrap (a.tdiv b)))) ds) w) : wpList P ops Q (⟨some d, .binOp .quo T x y U, ty, pos, af, none⟩ :: rest) (mk n ρ ds) w :=
  st_val (yqu hx hy hb w) h
theorem yrm {x y : Operand} {T U : Nat} {k : IntKind} {a b : Int} (hx : ev n ρ x = some (.int k a)) (hy : ev n ρ y = some (.int k b)) (hb : b ≠ 0)
    (w : World) : (execOp (mk n ρ ds).eval ⟨some d, .binOp .rem T x y U, ty, pos, af, none⟩).run P w = .ok (.value (.int k (a.tmod b))) w := by simp [execOp, mk_eval hx, mk_eval hy, eqGuard, binOp, Op.intDiv, hb]
theorem xrm {x y : Operand} {T U : Nat} {k : IntKind} {a b : Int} (hx : ev n ρ x = some (.int k a)) (hy : ev n ρ y = some (.int k b)) (hb : b ≠ 0)
    (h : wpList P ops Q rest (mk n (upd ρ d (.int k (a.tmod b))) ds) w) : wpList P ops Q (⟨some d, .binOp .rem T x y U, ty, pos, af, none⟩ :: rest) (mk n ρ ds) w :=
  st_val (yrm hx hy hb w) h
theorem ylt {x y : Operand} {T U : Nat} {k : IntKind} {a b : Int} (hx : ev n ρ x = some (.int k a)) (hy : ev n ρ y = some (.int k b))
    (w : World) : (execOp (mk n ρ ds).eval ⟨some d, .binOp .lss T x y U, ty, pos, af, none⟩).run P w = .ok (.value (.bool (decide (a < b)))) w := by simp [execOp, mk_eval hx, mk_eval hy, eqGuard, binOp, Op.intCmp]
theorem xlt {x y : Operand} {T U : Nat} {k : IntKind} {a b : Int} (hx : ev n ρ x = some (.int k a)) (hy : ev n ρ y = some (.int k b))
    (h : wpList P ops Q rest (mk n (upd ρ d (.bool (decide (a < b)))) ds) w) : wpList P ops Q (⟨some d, .binOp .lss T x y U, ty, pos, af, none⟩ :: rest) (mk n ρ ds) w :=
  st_val (ylt hx hy w) h
theorem yle {x y : Operand} {T U : Nat} {k : IntKind} {a b : Int} (hx : ev n ρ x = some (.int k a)) (hy : ev n ρ y = some (.int k b))
    (w : World) : (execOp (mk n ρ ds).eval ⟨some d, .binOp .leq T x y U, ty, pos, af, none⟩).run P w = .ok (.value (.bool (decide (a ≤ b)))) w := by simp [execOp, mk_eval hx, mk_eval hy, eqGuard, binOp, Op.intCmp]
theorem xle {x y : Operand} {T U : Nat} {k : IntKind} {a b : Int} (hx : ev n ρ x = some (.int k a)) (hy : ev n ρ y = some (.int k b))
    (h : wpList P ops Q rest (mk n (upd ρ d (.bool (decide (a ≤ b)))) ds) w) : wpList P ops Q (⟨some d, .binOp .leq T x y U, ty, pos, af, none⟩ :: rest) (mk n ρ ds) w :=
  st_val (yle hx hy w) h
theorem ygt {x y : Operand} {T U : Nat} {k : IntKind} {a b : Int} (hx : ev n ρ x = some (.int k a)) (hy : ev n ρ y = some (.int k b))
    (w : World) : (execOp (mk n ρ ds).eval ⟨some d, .binOp .gtr T x y U, ty, pos, af, none⟩).run P w = .ok (.value (.bool (decide (a > b)))) w := by simp [execOp, mk_eval hx, mk_eval hy, eqGuard, binOp, Op.intCmp]
theorem xgt {x y : Operand} {T U : Nat} {k : IntKind} {a b : Int} (hx : ev n ρ x = some (.int k a)) (hy : ev n ρ y = some (.int k b))
    (h : wpList P ops Q rest (mk n (upd ρ d (.bool (decide (a > b)))) ds) w) : wpList P ops Q (⟨some d, .binOp .gtr T x y U, ty, pos, af, none⟩ :: rest) (mk n ρ ds) w :=
  st_val (ygt hx hy w) h
theorem yge {x y : Operand} {T U : Nat} {k : IntKind} {a b : Int} (hx : ev n ρ x = some (.int k a)) (hy : ev n ρ y = some (.int k b))
    (w : World) : (execOp (mk n ρ ds).eval ⟨some d, .binOp .geq T x y U, ty, pos, af, none⟩).run P w = .ok (.value (.bool (decide (a ≥ b)))) w := by simp [execOp, mk_eval hx, mk_eval hy, eqGuard, binOp, Op.intCmp]
theorem xge {x y : Operand} {T U : Nat} {k : IntKind} {a b : Int} (hx : ev n ρ x = some (.int k a)) (hy : ev n ρ y = some (.int k b))
    (h : wpList P ops Q rest (mk n (upd ρ d (.bool (decide (a ≥ b)))) ds) w) : wpList P ops Q (⟨some d, .binOp .geq T x y U, ty, pos, af, none⟩ :: rest) (mk n ρ ds) w :=
  st_val (yge hx hy w) h
theorem yeq {x y : Operand} {T U : Nat} {k : IntKind} {a b : Int} (hx : ev n ρ x = some (.int k a)) (hy : ev n ρ y = some (.int k b))
    (w : World) : (execOp (mk n ρ ds).eval ⟨some d, .binOp .eql T x y U, ty, pos, af, none⟩).run P w = .ok (.value (.bool (a == b))) w := by simp [execOp, mk_eval hx, mk_eval hy, eqGuard, binOp, Op.intCmp]
theorem xeq {x y : Operand} {T U : Nat} {k : IntKind} {a b : Int} (hx : ev n ρ x = some (.int k a)) (hy : ev n ρ y = some (.int k b))
    (h : wpList P ops Q rest (mk n (upd ρ d (.bool (a == b))) ds) w) : wpList P ops Q (⟨some d, .binOp .eql T x y U, ty, pos, af, none⟩ :: rest) (mk n ρ ds) w :=
  st_val (yeq hx hy w) h
theorem yne {x y : Operand} {T U : Nat} {k : IntKind} {a b : Int} (hx : ev n ρ x = some (.int k a)) (hy : ev n ρ y = some (.int k b))
    (w : World) : (execOp (mk n ρ ds).eval ⟨some d, .binOp .neq T x y U, ty, pos, af, none⟩).run P w = .ok (.value (.bool (a != b))) w := by simp [execOp, mk_eval hx, mk_eval hy, eqGuard, binOp, Op.intCmp]
theorem xne {x y : Operand} {T U : Nat} {k : IntKind} {a b : Int} (hx : ev n ρ x = some (.int k a)) (hy : ev n ρ y = some (.int k b))
    (h : wpList P ops Q rest (mk n (upd ρ d (.bool (a != b))) ds) w) : wpList P ops Q (⟨some d, .binOp .neq T x y U, ty, pos, af, none⟩ :: rest) (mk n ρ ds) w :=
  st_val (yne hx hy w) h
theorem yan {x y : Operand} {T U : Nat} {k : IntKind} {a b : Int} (hx : ev n ρ x = some (.int k a)) (hy : ev n ρ y = some (.int k b))
    (w : World) : (execOp (mk n ρ ds).eval ⟨some d, .binOp .and T x y U, ty, pos, af, none⟩).run P w = .ok (.value (.int k (bitsI .and k a b))) w := by simp [execOp, mk_eval hx, mk_eval hy, eqGuard, binOp, Op.intBits, bitsI]
theorem xan {x y : Operand} {T U : Nat} {k : IntKind} {a b : Int} (hx : ev n ρ x = some (.int k a)) (hy : ev n ρ y = some (.int k b))
    (h : wpList P ops Q rest (mk n (upd ρ d (.int k (bitsI .and k a b))) ds) w) : wpList P ops Q (⟨some d, .binOp .and T x y U, ty, pos, af, none⟩ :: rest) (mk n ρ ds) w :=
  st_val (yan hx hy w) h
theorem yorr {x y : Operand} {T U : Nat} {k : IntKind} {a b : Int} (hx : ev n ρ x = some (.int k a)) (hy : ev n ρ y = some (.int k b))
    (w : World) : (execOp (mk n ρ ds).eval ⟨some d, .binOp .or T x y U, ty, pos, af, none⟩).run P w = .ok (.value (.int k (bitsI .or k a b))) w := by simp [execOp, mk_eval hx, mk_eval hy, eqGuard, binOp, Op.intBits, bitsI]
theorem xorr {x y : Operand} {T U : Nat} {k : IntKind} {a b : Int} (hx : ev n ρ x = some (.int k a)) (hy : ev n ρ y = some (.int k b))
    (h : wpList P ops Q rest (mk n (upd ρ d (.int k (bitsI .or k a b))) ds) w) : wpList P ops Q (⟨some d, .binOp .or T x y U, ty, pos, af, none⟩ :: rest) (mk n ρ ds) w :=
  st_val (yorr hx hy w) h
theorem yxo {x y : Operand} {T U : Nat} {k : IntKind} {a b : Int} (hx : ev n ρ x = some (.int k a)) (hy : ev n ρ y = some (.int k b))
    (w : World) : (execOp (mk n ρ ds).eval ⟨some d, .binOp .xor T x y U, ty, pos, af, none⟩).run P w = .ok (.value (.int k (bitsI .xor k a b))) w := by simp [execOp, mk_eval hx, mk_eval hy, eqGuard, binOp, Op.intBits, bitsI]
theorem xxo {x y : Operand} {T U : Nat} {k : IntKind} {a b : Int} (hx : ev n ρ x = some (.int k a)) (hy : ev n ρ y = some (.int k b))
    (h : wpList P ops Q rest (mk n (upd ρ d (.int k (bitsI .xor k a b))) ds) w) : wpList P ops Q (⟨some d, .binOp .xor T x y U, ty, pos, af, none⟩ :: rest) (mk n ρ ds) w :=
  st_val (yxo hx hy w) h
theorem yanot {x y : Operand} {T U : Nat} {k : IntKind} {a b : Int} (hx : ev n ρ x = some (.int k a)) (hy : ev n ρ y = some (.int k b))
    (w : World) : (execOp (mk n ρ ds).eval ⟨some d, .binOp .andNot T x y U, ty, pos, af, none⟩).run P w = .ok (.value (.int k (bitsI .andNot k a b))) w := by simp [execOp, mk_eval hx, mk_eval hy, eqGuard, binOp, Op.intBits, bitsI]
theorem xanot {x y : Operand} {T U : Nat} {k : IntKind} {a b : Int} (hx : ev n ρ x = some (.int k a)) (hy : ev n ρ y = some (.int k b))
    (h : wpList P ops Q rest (mk n (upd ρ d (.int k (bitsI .andNot k a b))) ds) w) : wpList P ops Q (⟨some d, .binOp .andNot T x y U, ty, pos, af, none⟩ :: rest) (mk n ρ ds) w :=
  st_val (yanot hx hy w) h
theorem yshl {x y : Operand} {T U : Nat} {k k2 : IntKind} {a b : Int} (hx : ev n ρ x = some (.int k a)) (hy : ev n ρ y = some (.int k2 b)) (hb : 0 ≤ b)
    (w : World) : (execOp (mk n ρ ds).eval ⟨some d, .binOp .shl T x y U, ty, pos, af, none⟩).run P w = .ok (.value (.int k (k.wrap (a * 2 ^ min b.toNat k.bits)))) w := by simp [execOp, mk_eval hx, mk_eval hy, eqGuard, binOp, Op.shift, Int.not_lt.2 hb]
theorem xshl {x y : Operand} {T U : Nat} {k k2 : IntKind} {a b : Int} (hx : ev n ρ x = some (.int k a)) (hy : ev n ρ y = some (.int k2 b)) (hb : 0 ≤ b)
    (h : wpList P ops Q rest (mk n (upd ρ d (.int k (k.wrap (a * 2 ^ min b.toNat k.bits)))) ds) w) : wpList P ops Q (⟨some d, .binOp .shl T x y U, ty, pos, af, none⟩ :: rest) (mk n ρ ds) w :=
  st_val (yshl hx hy hb w) h
theorem yshr {x y : Operand} {T U : Nat} {k k2 : IntKind} {a b : Int} (hx : ev n ρ x = some (.int k a)) (hy : ev n ρ y = some (.int k2 b)) (hb : 0 ≤ b)
    (w : World) : (execOp (mk n ρ ds).eval ⟨some d, .binOp .shr T x y U, ty, pos, af, none⟩).run P w = .ok (.value (.int k (a.fdiv (2 ^ min b.toNat k.bits)))) w := by simp [execOp, mk_eval hx, mk_eval hy, eqGuard, binOp, Op.shift, Int.not_lt.2 hb]
theorem xshr {x y : Operand} {T U : Nat} {k k2 : IntKind} {a b : Int} (hx : ev n ρ x = some (.int k a)) (hy : ev n ρ y = some (.int k2 b)) (hb : 0 ≤ b)
    (h : wpList P ops Q rest (mk n (upd ρ d (.int k (a.fdiv (2 ^ min b.toNat k.bits)))) ds) w) : wpList P ops Q (⟨some d, .binOp .shr T x y U, ty, pos, af, none⟩ :: rest) (mk n ρ ds) w :=
  st_val (yshr hx hy hb w) h
theorem yng {x : Operand} {T : Nat} {k : IntKind} {a : Int} (hx : ev n ρ x = some (.int k a))
    (w : World) : (execOp (mk n ρ ds).eval ⟨some d, .unOp .neg T x, ty, pos, af, none⟩).run P w = .ok (.value (.int k (k.wrap (0 - a)))) w := by simp [execOp, mk_eval hx, Op.unary, Op.intArith]
theorem xng {x : Operand} {T : Nat} {k : IntKind} {a : Int} (hx : ev n ρ x = some (.int k a))
    (h : wpList P ops Q rest (mk n (upd ρ d (.int k (k.wrap (0 - a)))) ds) w) : wpList P ops Q (⟨some d, .unOp .neg T x, ty, pos, af, none⟩ :: rest) (mk n ρ ds) w :=
  st_val (yng hx w) h
theorem yxn {x : Operand} {T : Nat} {k : IntKind} {a : Int} (hx : ev n ρ x = some (.int k a))
    (w : World) : (execOp (mk n ρ ds).eval ⟨some d, .unOp .xor T x, ty, pos, af, none⟩).run P w = .ok (.value (.int k (bitsI .xor k (if k.signed then -1 else k.max) a))) w := by simp [execOp, mk_eval hx, Op.unary, Op.intBits, bitsI]
theorem xxn {x : Operand} {T : Nat} {k : IntKind} {a : Int} (hx : ev n ρ x = some (.int k a))
    (h : wpList P ops Q rest (mk n (upd ρ d (.int k (bitsI .xor k (if k.signed then -1 else k.max) a))) ds) w) : wpList P ops Q (⟨some d, .unOp .xor T x, ty, pos, af, none⟩ :: rest) (mk n ρ ds) w :=
  st_val (yxn hx w) h
theorem ycv {x : Operand} {S T : Nat} {j k : IntKind} {a : Int} [TInt P S j] [TInt P T k] (hx : ev n ρ x = some (.int j a))
    (w : World) : (execOp (mk n ρ ds).eval ⟨some d, .convert S T x, ty, pos, af, none⟩).run P w = .ok (.value (.int k (k.wrap a))) w := by simp [execOp, mk_eval hx, convert, run_underlying (TInt.out (P := P) (T := S)), run_underlying (TInt.out (P := P) (T := T)), Conv.intToInt]
theorem xcv {x : Operand} {S T : Nat} {j k : IntKind} {a : Int} [TInt P S j] [TInt P T k] (hx : ev n ρ x = some (.int j a))
    (h : wpList P ops Q rest (mk n (upd ρ d (.int k (k.wrap a))) ds) w) : wpList P ops Q (⟨some d, .convert S T x, ty, pos, af, none⟩ :: rest) (mk n ρ ds) w :=
  st_val (ycv hx w) h
theorem ycvi {x : Operand} {S T : Nat} {j k : IntKind} {a : Int} [TInt P S j] [TInt P T k] (hx : ev n ρ x = some (.int j a)) (hw : k.wrap a = a)
    (w : World) : (execOp (mk n ρ ds).eval ⟨some d, .convert S T x, ty, pos, af, none⟩).run P w = .ok (.value (.int k a)) w := by simp [execOp, mk_eval hx, convert, run_underlying (TInt.out (P := P) (T := S)), run_underlying (TInt.out (P := P) (T := T)), Conv.intToInt, hw]
theorem xcvi {x : Operand} {S T : Nat} {j k : IntKind} {a : Int} [TInt P S j] [TInt P T k] (hx : ev n ρ x = some (.int j a)) (hw : k.wrap a = a)
    (h : wpList P ops Q rest (mk n (upd ρ d (.int k a)) ds) w) : wpList P ops Q (⟨some d, .convert S T x, ty, pos, af, none⟩ :: rest) (mk n ρ ds) w :=
  st_val (ycvi hx hw w) h
theorem yseq {x y : Operand} {T U : Nat} {a b : ByteArray} (hx : ev n ρ x = some (.string a)) (hy : ev n ρ y = some (.string b))
    (w : World) : (execOp (mk n ρ ds).eval ⟨some d, .binOp .eql T x y U, ty, pos, af, none⟩).run P w = .ok (.value (.bool (a.toList == b.toList))) w := by simp [execOp, mk_eval hx, mk_eval hy, eqGuard, binOp, Op.stringOp]
theorem ysne {x y : Operand} {T U : Nat} {a b : ByteArray} (hx : ev n ρ x = some (.string a)) (hy : ev n ρ y = some (.string b))
    (w : World) : (execOp (mk n ρ ds).eval ⟨some d, .binOp .neq T x y U, ty, pos, af, none⟩).run P w = .ok (.value (.bool (!(a.toList == b.toList)))) w := by simp [execOp, mk_eval hx, mk_eval hy, eqGuard, binOp, Op.stringOp]
theorem ypns {x y : Operand} {T U E : Nat} {a : Addr} [TPt P T E] (hx : ev n ρ x = some (.pointer (some a))) (hy : ev n ρ y = some (.pointer none))
    (w : World) : (execOp (mk n ρ ds).eval ⟨some d, .binOp .eql T x y U, ty, pos, af, none⟩).run P w = .ok (.value (.bool false)) w := by have hp := pointee_of (TPt.out (P := P) (T := T)); simp [execOp, mk_eval hx, mk_eval hy, eqGuard, run_eql_pointer_nil w T (some a) hp]
theorem xpns {x y : Operand} {T U E : Nat} {a : Addr} [TPt P T E] (hx : ev n ρ x = some (.pointer (some a))) (hy : ev n ρ y = some (.pointer none))
    (h : wpList P ops Q rest (mk n (upd ρ d (.bool false)) ds) w) : wpList P ops Q (⟨some d, .binOp .eql T x y U, ty, pos, af, none⟩ :: rest) (mk n ρ ds) w :=
  st_val (ypns hx hy w) h
theorem ypnz {x y : Operand} {T U E : Nat} [TPt P T E] (hx : ev n ρ x = some (.pointer none)) (hy : ev n ρ y = some (.pointer none))
    (w : World) : (execOp (mk n ρ ds).eval ⟨some d, .binOp .eql T x y U, ty, pos, af, none⟩).run P w = .ok (.value (.bool true)) w := by have hp := pointee_of (TPt.out (P := P) (T := T)); simp [execOp, mk_eval hx, mk_eval hy, eqGuard, run_eql_pointer_nil w T none hp]
theorem xpnz {x y : Operand} {T U E : Nat} [TPt P T E] (hx : ev n ρ x = some (.pointer none)) (hy : ev n ρ y = some (.pointer none))
    (h : wpList P ops Q rest (mk n (upd ρ d (.bool true)) ds) w) : wpList P ops Q (⟨some d, .binOp .eql T x y U, ty, pos, af, none⟩ :: rest) (mk n ρ ds) w :=
  st_val (ypnz hx hy w) h
theorem ypms {x y : Operand} {T U E : Nat} {a : Addr} [TPt P T E] (hx : ev n ρ x = some (.pointer (some a))) (hy : ev n ρ y = some (.pointer none))
    (w : World) : (execOp (mk n ρ ds).eval ⟨some d, .binOp .neq T x y U, ty, pos, af, none⟩).run P w = .ok (.value (.bool true)) w := by have hp := pointee_of (TPt.out (P := P) (T := T)); simp [execOp, mk_eval hx, mk_eval hy, eqGuard, run_neq_pointer_nil w T (some a) hp]
theorem xpms {x y : Operand} {T U E : Nat} {a : Addr} [TPt P T E] (hx : ev n ρ x = some (.pointer (some a))) (hy : ev n ρ y = some (.pointer none))
    (h : wpList P ops Q rest (mk n (upd ρ d (.bool true)) ds) w) : wpList P ops Q (⟨some d, .binOp .neq T x y U, ty, pos, af, none⟩ :: rest) (mk n ρ ds) w :=
  st_val (ypms hx hy w) h
theorem ypmz {x y : Operand} {T U E : Nat} [TPt P T E] (hx : ev n ρ x = some (.pointer none)) (hy : ev n ρ y = some (.pointer none))
    (w : World) : (execOp (mk n ρ ds).eval ⟨some d, .binOp .neq T x y U, ty, pos, af, none⟩).run P w = .ok (.value (.bool false)) w := by have hp := pointee_of (TPt.out (P := P) (T := T)); simp [execOp, mk_eval hx, mk_eval hy, eqGuard, run_neq_pointer_nil w T none hp]
theorem xpmz {x y : Operand} {T U E : Nat} [TPt P T E] (hx : ev n ρ x = some (.pointer none)) (hy : ev n ρ y = some (.pointer none))
    (h : wpList P ops Q rest (mk n (upd ρ d (.bool false)) ds) w) : wpList P ops Q (⟨some d, .binOp .neq T x y U, ty, pos, af, none⟩ :: rest) (mk n ρ ds) w :=
  st_val (ypmz hx hy w) h
theorem ysn {x y : Operand} {T U E sz : Nat} {a : Option Addr} {l c : Nat} [TSl P T E sz] (hx : ev n ρ x = some (.slice a l c)) (hy : ev n ρ y = some (.slice none 0 0))
    (w : World) : (execOp (mk n ρ ds).eval ⟨some d, .binOp .eql T x y U, ty, pos, af, none⟩).run P w = .ok (.value (.bool a.isNone)) w := by have hp := Lib.run_eql_slice_nil (P := P) (w := w) T E a l c 0 0 TSl.out; simp [execOp, mk_eval hx, mk_eval hy, eqGuard, hp]
theorem xsn {x y : Operand} {T U E sz : Nat} {a : Option Addr} {l c : Nat} [TSl P T E sz] (hx : ev n ρ x = some (.slice a l c)) (hy : ev n ρ y = some (.slice none 0 0))
    (h : wpList P ops Q rest (mk n (upd ρ d (.bool a.isNone)) ds) w) : wpList P ops Q (⟨some d, .binOp .eql T x y U, ty, pos, af, none⟩ :: rest) (mk n ρ ds) w :=
  st_val (ysn hx hy w) h
theorem yli {x : Operand} {T E sz : Nat} {a : Option Addr} {l c : Nat} [TSl P T E sz] (hx : ev n ρ x = some (.slice a l c))
    (w : World) : (execOp (mk n ρ ds).eval ⟨some d, .call { callee := .builtin .len, args := #[x], argTypes := #[T] }, ty, pos, af, none⟩).run P w = .ok (.value (.int .i64 l)) w := by simp [execOp, resolve, invoke, builtin, mk_eval hx, Builtin.len_, run_underlying (TSl.out (P := P) (T := T)), goInt]
theorem xli {x : Operand} {T E sz : Nat} {a : Option Addr} {l c : Nat} [TSl P T E sz] (hx : ev n ρ x = some (.slice a l c))
    (h : wpList P ops Q rest (mk n (upd ρ d (.int .i64 l)) ds) w) : wpList P ops Q (⟨some d, .call { callee := .builtin .len, args := #[x], argTypes := #[T] }, ty, pos, af, none⟩ :: rest) (mk n ρ ds) w :=
  st_val (yli hx w) h
theorem ycp {x : Operand} {T E sz : Nat} {a : Option Addr} {l c : Nat} [TSl P T E sz] (hx : ev n ρ x = some (.slice a l c))
    (w : World) : (execOp (mk n ρ ds).eval ⟨some d, .call { callee := .builtin .cap, args := #[x], argTypes := #[T] }, ty, pos, af, none⟩).run P w = .ok (.value (.int .i64 c)) w := by simp [execOp, resolve, invoke, builtin, mk_eval hx, Builtin.cap_, run_underlying (TSl.out (P := P) (T := T)), goInt]
theorem xcp {x : Operand} {T E sz : Nat} {a : Option Addr} {l c : Nat} [TSl P T E sz] (hx : ev n ρ x = some (.slice a l c))
    (h : wpList P ops Q rest (mk n (upd ρ d (.int .i64 c)) ds) w) : wpList P ops Q (⟨some d, .call { callee := .builtin .cap, args := #[x], argTypes := #[T] }, ty, pos, af, none⟩ :: rest) (mk n ρ ds) w :=
  st_val (ycp hx w) h
theorem yls {x : Operand} {T : Nat} {s : ByteArray} [TStr P T] (hx : ev n ρ x = some (.string s))
    (w : World) : (execOp (mk n ρ ds).eval ⟨some d, .call { callee := .builtin .len, args := #[x], argTypes := #[T] }, ty, pos, af, none⟩).run P w = .ok (.value (.int .i64 s.size)) w := by simp [execOp, resolve, invoke, builtin, mk_eval hx, Builtin.len_, run_underlying (TStr.out (P := P) (T := T)), goInt]
theorem xls {x : Operand} {T : Nat} {s : ByteArray} [TStr P T] (hx : ev n ρ x = some (.string s))
    (h : wpList P ops Q rest (mk n (upd ρ d (.int .i64 s.size)) ds) w) : wpList P ops Q (⟨some d, .call { callee := .builtin .len, args := #[x], argTypes := #[T] }, ty, pos, af, none⟩ :: rest) (mk n ρ ds) w :=
  st_val (yls hx w) h
theorem ymx {x y : Operand} {k : IntKind} {a b : Int} {ts : Array TypeId} (hx : ev n ρ x = some (.int k a)) (hy : ev n ρ y = some (.int k b))
    (w : World) : (execOp (mk n ρ ds).eval ⟨some d, .call { callee := .builtin .max, args := #[x, y], argTypes := ts }, ty, pos, af, none⟩).run P w = .ok (.value (.int k (if b > a then b else a))) w := by simp [execOp, resolve, invoke, builtin, mk_eval hx, mk_eval hy, run_max_int2]
theorem xmx {x y : Operand} {k : IntKind} {a b : Int} {ts : Array TypeId} (hx : ev n ρ x = some (.int k a)) (hy : ev n ρ y = some (.int k b))
    (h : wpList P ops Q rest (mk n (upd ρ d (.int k (if b > a then b else a))) ds) w) : wpList P ops Q (⟨some d, .call { callee := .builtin .max, args := #[x, y], argTypes := ts }, ty, pos, af, none⟩ :: rest) (mk n ρ ds) w :=
  st_val (ymx hx hy w) h
theorem ymn {x y : Operand} {k : IntKind} {a b : Int} {ts : Array TypeId} (hx : ev n ρ x = some (.int k a)) (hy : ev n ρ y = some (.int k b))
    (w : World) : (execOp (mk n ρ ds).eval ⟨some d, .call { callee := .builtin .min, args := #[x, y], argTypes := ts }, ty, pos, af, none⟩).run P w = .ok (.value (.int k (if b < a then b else a))) w := by simp [execOp, resolve, invoke, builtin, mk_eval hx, mk_eval hy, run_min_int2]
theorem ymf {f : FuncId} {fs cs : List Operand} {p q : List Value} (hp : evl n ρ fs = some p) (hq : evl n ρ cs = some q)
    (w : World) : (execOp (mk n ρ ds).eval ⟨some d, .makeFunc (.func f) fs.toArray cs.toArray, ty, pos, af, none⟩).run P w = .ok (.value (.func (.func f) p.toArray q.toArray)) w := by simp [execOp, mk_evl hp, mk_evl hq, Instr.makeFunc]
theorem xmf {f : FuncId} {fs cs : List Operand} {p q : List Value} (hp : evl n ρ fs = some p) (hq : evl n ρ cs = some q)
    (h : wpList P ops Q rest (mk n (upd ρ d (.func (.func f) p.toArray q.toArray)) ds) w) : wpList P ops Q (⟨some d, .makeFunc (.func f) fs.toArray cs.toArray, ty, pos, af, none⟩ :: rest) (mk n ρ ds) w :=
  st_val (ymf hp hq w) h
theorem run_loadVar_sc {T : TypeId} {a : Addr} {v : Value} [TSc P T] (hc : w.cell? a = some v) : (loadVar T a).run P w = .ok v w := by
  simp [loadVar, TSc.out, hc]
theorem xld {x : Operand} {T b off : Nat} {v : Value} {A : Asn} [TSc P T] (k : Nat) (H : St g w L) (hx : ev n ρ x = some (.pointer (some ⟨b, off, none⟩))) (hk : nthA L k = some A) (hc : A.cell ⟨b, off, none⟩ v)
    (h : wpList P ops Q rest (mk n (upd ρ d v) ds) w) : wpList P ops Q (⟨some d, .load T x, ty, pos, af, none⟩ :: rest) (mk n ρ ds) w :=
  st_val (v := v) (by simp only [execOp, mk_eval hx, Instr.loadAt, Instr.sureAddr]; simp [run_loadVar_sc (P := P) (T := T) (H.cell hk hc)]) h
theorem xldb {x : Operand} {T U b off : Nat} {v : Value} {c : List Value} [TSc P T] (k : Nat) (H : St g w L) (hx : ev n ρ x = some (.pointer (some ⟨b, off, none⟩))) (hk : nthA L k = some (blk b c U)) (hc : nthV c off = some v)
    (h : wpList P ops Q rest (mk n (upd ρ d v) ds) w) : wpList P ops Q (⟨some d, .load T x, ty, pos, af, none⟩ :: rest) (mk n ρ ds) w :=
  xld k H hx hk (blk_cell hc) h
def Cells (A : Asn) (b off : Nat) (vs : List Value) : Prop := ∀ j v, vs[j]? = some v → A.cell ⟨b, off + j, none⟩ v
theorem Cells.run {A : Asn} {b off : Nat} {vs : List Value} {F : Nat → Prop} (h : Cells A b off vs) (hA : A.at_ w F) : (loadCells ⟨b, off, none⟩ vs.length).run P w = .ok vs.toArray w := by
  refine run_loadCells_list w ⟨b, off, none⟩ vs (fun j v hv => ?_)
  rw [show (Addr.add ⟨b, off, none⟩ j : Addr) = ⟨b, off + j, none⟩ by unfold Addr.add; split <;> simp_all]
  exact h j v hv w F hA
def dropV : Nat → List Value → Option (List Value)
  | 0, l => some l
  | _ + 1, [] => none
  | k + 1, _ :: l => dropV k l
def takeV : Nat → List Value → Option (List Value)
  | 0, _ => some []
  | _ + 1, [] => none
  | k + 1, v :: l => match takeV k l with | some m => some (v :: m) | none => none
theorem dropV_eq : ∀ {k : Nat} {l m : List Value}, dropV k l = some m → m = l.drop k ∧ k ≤ l.length
  | 0, l, m, h => by simp [dropV] at h; simp [h]
  | k + 1, [], m, h => by simp [dropV] at h
  | k + 1, v :: l, m, h => by simp only [dropV] at h; have := dropV_eq h; simp [this]
theorem takeV_eq : ∀ {k : Nat} {l m : List Value}, takeV k l = some m → m = l.take k ∧ k ≤ l.length
  | 0, l, m, h => by simp [takeV] at h; simp [h]
  | k + 1, [], m, h => by simp [takeV] at h
  | k + 1, v :: l, m, h => by
    simp only [takeV] at h
    split at h
    · rename_i m' hm; simp at h; subst h; have := takeV_eq hm; simp [this]
    · cases h
theorem blk_cells {k b off : Nat} {c c' vs : List Value} {U : TypeId} (h1 : dropV off c = some c') (h2 : takeV k c' = some vs) : Cells (blk b c U) b off vs := by
  obtain ⟨rfl, h3⟩ := dropV_eq h1
  obtain ⟨rfl, h4⟩ := takeV_eq h2
  intro j v hv
  refine blk_cell ?_
  rw [nthV_eq]
  rw [List.getElem?_take, List.getElem?_drop] at hv
  split at hv
  · exact hv
  · cases hv
theorem xlda {x : Operand} {T b off m : Nat} {vs : List Value} {A : Asn} [TAg P T m] (k : Nat) (H : St g w L) (hx : ev n ρ x = some (.pointer (some ⟨b, off, none⟩))) (hk : nthA L k = some A) (hc : Cells A b off vs) (hm : vs.length = m)
    (h : wpList P ops Q rest (mk n (upd ρ d (.agg vs.toArray)) ds) w) : wpList P ops Q (⟨some d, .load T x, ty, pos, af, none⟩ :: rest) (mk n ρ ds) w := by
  obtain ⟨F, hF⟩ := H.nth hk
  subst hm
  exact st_val (v := .agg vs.toArray) (by simp only [execOp, mk_eval hx, Instr.loadAt, Instr.sureAddr]; simp [loadVar, TAg.out, TAg.size, hc.run hF]) h
theorem xldab {x : Operand} {T U b off m : Nat} {vs c c' : List Value} [TAg P T m] (k : Nat) (H : St g w L) (hx : ev n ρ x = some (.pointer (some ⟨b, off, none⟩))) (hk : nthA L k = some (blk b c U))
    (h1 : dropV off c = some c') (h2 : takeV m c' = some vs)
    (h : wpList P ops Q rest (mk n (upd ρ d (.agg vs.toArray)) ds) w) : wpList P ops Q (⟨some d, .load T x, ty, pos, af, none⟩ :: rest) (mk n ρ ds) w :=
  xlda k H hx hk (blk_cells h1 h2) (by obtain ⟨rfl, h4⟩ := takeV_eq h2; simp; omega) h
def putV : List Value → Nat → Value → Option (List Value)
  | [], _, _ => none
  | _ :: l, 0, v => some (v :: l)
  | u :: l, k + 1, v => match putV l k v with | some m => some (u :: m) | none => none
theorem putV_eq : ∀ {l : List Value} {k : Nat} {v : Value} {m : List Value}, putV l k v = some m → m = setV l k v ∧ k < l.length
  | [], _, _, _, h => by simp [putV] at h
  | _ :: l, 0, v, m, h => by simp [putV] at h; subst h; simp [setV]
  | u :: l, k + 1, v, m, h => by
    simp only [putV] at h
    split at h
    · rename_i m' hm; simp at h; subst h; have := putV_eq hm; simp [setV, this]
    · cases h
theorem run_storeVar_sc {T b off U : Nat} {v : Value} {c : List Value} {F : Nat → Prop} [TSc P T] (hv : v.oneCell' = true) (hA : (blk b c U).at_ w F) (hoff : off < c.length) :
    (storeVar T ⟨b, off, none⟩ v).run P w = .ok () (w.setCell ⟨b, off, none⟩ v) := by
  have h0 : v.cells = #[v] := by cases v <;> simp [Value.oneCell'] at hv <;> rfl
  have h1 : w.cell? ⟨b, off, none⟩ = some c[off] := by rw [cell_of_heap hA.2]; simp [hoff]
  have h2 : w.frozen? ⟨b, off, none⟩ = false := by simp [World.frozen?, hA.2]
  have h3 : (Addr.add ⟨b, off, none⟩ 0 : Addr) = ⟨b, off, none⟩ := rfl
  simp only [storeVar, Sem.run_bind, TSc.size, Result.andThen_ok, h0]
  simp only [ne_eq, List.size_toArray, List.length_cons, List.length_nil, Nat.zero_add, not_true_eq_false, if_false]
  simp [storeCells, h3, run_store _ _ _ _ _ hv, h1, h2]
theorem xst {x y : Operand} {T U b off : Nat} {v : Value} {c c' : List Value} {M : List Asn} [TSc P T] (k : Nat) (H : St g w L) (hx : ev n ρ x = some (.pointer (some ⟨b, off, none⟩))) (hy : ev n ρ y = some v) (hk : takeAt k L = some (blk b c U, M))
    (hc : putV c off v = some c') (hv : v.oneCell' = true)
    (h : ∀ w', St g w' (blk b c' U :: M) → wpList P ops Q rest (mk n ρ ds) w') : wpList P ops Q (⟨none, .store T x y, ty, pos, af, none⟩ :: rest) (mk n ρ ds) w := by
  have H1 := H.front k hk
  obtain ⟨F, hF⟩ := H1.nth (k := 0) rfl
  obtain ⟨rfl, hl⟩ := putV_eq hc
  exact st_skip (by simp only [execOp, mk_eval hx, mk_eval hy, Instr.storeAt, Instr.sureAddr]; simp [run_storeVar_sc (P := P) (T := T) hv hF hl]) (h _ (H1.setCell v))
theorem run_newVar {T : TypeId} {v : Value} {c : List Value} (hc : v.cells = c.toArray) : (newVar T v).run P w = .ok ⟨w.heap.size, 0, none⟩ (w.alloc (.cells c.toArray T)) := by
  simp [newVar, newRow, hc]
theorem xal {T : TypeId} {z : List Value} [TZ P T z] (H : St g w L)
    (h : ∀ b w', St g w' (blk b z T :: L) → wpList P ops Q rest (mk n (upd ρ d (.pointer (some ⟨b, 0, none⟩))) ds) w') : wpList P ops Q (⟨some d, .alloc T, ty, pos, af, none⟩ :: rest) (mk n ρ ds) w := by
  obtain ⟨v, hv, hc⟩ := TZ.out (P := P) (T := T) w
  exact st_val (by simp only [execOp, Instr.alloc]; simp [hv, run_newVar hc]) (h _ _ (H.alloc (.cells z.toArray T)))
theorem xbx {T : TypeId} {x : Operand} {v : Value} {c : List Value} (H : St g w L) (hx : ev n ρ x = some v) (hc : v.cells = c.toArray)
    (h : ∀ b w', St g w' (blk b c T :: L) → wpList P ops Q rest (mk n (upd ρ d (.pointer (some ⟨b, 0, none⟩))) ds) w') : wpList P ops Q (⟨some d, .box T x, ty, pos, af, none⟩ :: rest) (mk n ρ ds) w :=
  st_val (by simp only [execOp, Instr.box]; simp [mk_eval hx, run_newVar hc]) (h _ _ (H.alloc (.cells c.toArray T)))
def apV : List Value → List Value → Option (List Value)
  | [], m => some m
  | v :: l, m => match apV l m with | some k => some (v :: k) | none => none
theorem apV_eq : ∀ {l m k : List Value}, apV l m = some k → k = l ++ m
  | [], m, k, h => by simp [apV] at h; simp [h]
  | v :: l, m, k, h => by
    simp only [apV] at h
    split at h
    · rename_i k' hk; simp at h; subst h; rw [apV_eq hk]; rfl
    · cases h
theorem run_call {f : FuncId} {fv : Operand} {xs : List Operand} {ats : Array TypeId} {args xas p q pa : List Value} {dst : Option Tmp} (hf : ev n ρ fv = some (.func (.func f) p.toArray q.toArray)) (ha : evl n ρ xs = some xas) (hpa : apV p xas = some pa) (hpq : apV pa q = some args)
    (hc : ∀ w, (callFunc f args.toArray).run P w = .ok (.enter f args.toArray) w) :
    (execOp (mk n ρ ds).eval ⟨dst, .call { callee := .value fv, args := xs.toArray, argTypes := ats }, ty, pos, af, none⟩).run P w = .ok (.enter f args.toArray) w := by
  have e := apV_eq hpa; subst e
  have e := apV_eq hpq; subst e
  simp only [execOp, resolve, mk_eval hf, Deferred.ofValue, Sem.run_bind, Sem.run_pure, Result.andThen_ok, invoke, List.map_toArray, mk_evl ha, List.append_toArray]
  exact hc w
theorem xca {f : FuncId} {fv : Operand} {xs : List Operand} {ats : Array TypeId} {args xas p q pa : List Value} {S M : List Asn} {R : Ending → List Asn → Prop} (ks : List Nat)
    (H : St g w L) (c : Fn P f args S R) (hf : ev n ρ fv = some (.func (.func f) p.toArray q.toArray)) (ha : evl n ρ xs = some xas) (hpa : apV p xas = some pa) (hpq : apV pa q = some args) (hk : pick ks L = some (S, M))
    (hr : ∀ e L', R e L' → ∃ v, e = .returned v)
    (h : ∀ v L' w', R (.returned v) L' → St g w' (L' ++ M) → wpList P ops Q rest (mk n (upd ρ d v) ds) w') :
    wpList P ops Q (⟨some d, .call { callee := .value fv, args := xs.toArray, argTypes := ats }, ty, pos, af, none⟩ :: rest) (mk n ρ ds) w :=
  wpList_plain rfl fun K hK => by
    unfold Oper.wp; rw [run_call hf ha hpa hpq c.1, Oper.upon_enter]
    refine (c.calls ks H hk).mono fun e w' ⟨L', r, H'⟩ => ?_
    obtain ⟨v, rfl⟩ := hr e L' r
    show K ((mk n ρ ds).put (some d) v) w'
    rw [mk_put]; exact hK _ _ (h v L' w' r H')
theorem xcx {f : FuncId} {fv : Operand} {xs : List Operand} {ats : Array TypeId} {args xas p q pa : List Value} {S M : List Asn} {R : Ending → List Asn → Prop} {dst : Option Tmp} (ks : List Nat)
    (H : St g w L) (c : Fn P f args S R) (hf : ev n ρ fv = some (.func (.func f) p.toArray q.toArray)) (ha : evl n ρ xs = some xas) (hpa : apV p xas = some pa) (hpq : apV pa q = some args) (hk : pick ks L = some (S, M))
    (hr : ∀ e L', R e L' → e ≠ .outgrown)
    (h : ∀ v L' w', R (.returned v) L' → St g w' (L' ++ M) → wpList P ops Q rest (match dst with | some d => mk n (upd ρ d v) ds | none => mk n ρ ds) w')
    (hp : ∀ ch L' w', R (.panicked ch) L' → St g w' (L' ++ M) → Q (.panic ch) (mk n ρ ds) w') :
    wpList P ops Q (⟨dst, .call { callee := .value fv, args := xs.toArray, argTypes := ats }, ty, pos, af, none⟩ :: rest) (mk n ρ ds) w :=
  wpList_plain rfl fun K hK => by
    unfold Oper.wp; rw [run_call hf ha hpa hpq c.1, Oper.upon_enter]
    refine (c.calls ks H hk).mono fun e w' ⟨L', r, H'⟩ => ?_
    cases e with
    | returned v =>
      show K ((mk n ρ ds).put dst v) w'
      have := hK _ _ (h v L' w' r H')
      cases dst with
      | none => exact this
      | some d => rw [mk_put]; exact this
    | panicked ch => exact hp ch L' w' r H'
    | outgrown => exact absurd rfl (hr _ _ r)
end
section
variable {P : Program} {n : Nat} {ρ : Env} {w : World} {g : Gh} {fn : Func} {R : Ending → List Asn → Prop} {L : List Asn}
theorem rt1 {t : Nat} {v : Value} (h : fn.results = #[.tmp t]) (hv : ev n ρ (.tmp t) = some v) (H : St g w L) (hR : R (.returned v) L) : bodyPost P fn (fun e w' => ∃ L', R e L' ∧ St g w' L') .ret (mk n ρ []) w :=
  bodyPost_ret (v := v) (by rw [results_tmp h, mk_getD, hv]; rfl) rfl ⟨L, hR, H⟩
theorem rt0 (h : fn.results = #[]) (H : St g w L) (hR : R (.returned (.tuple #[])) L) : bodyPost P fn (fun e w' => ∃ L', R e L' ∧ St g w' L') .ret (mk n ρ []) w :=
  bodyPost_ret (results_none h _ _ _) rfl ⟨L, hR, H⟩
theorem rn0 (h : fn.results = #[]) (H : St g w L) (hR : R (.returned (.tuple #[])) L) : bodyPost P fn (fun e w' => ∃ L', R e L' ∧ St g w' L') .normal (mk n ρ []) w :=
  bodyPost_end (results_none h _ _ _) rfl ⟨L, hR, H⟩
theorem rt2 {t u : Nat} {v v' : Value} (h : fn.results = #[.tmp t, .tmp u]) (hv : ev n ρ (.tmp t) = some v) (hv' : ev n ρ (.tmp u) = some v') (H : St g w L) (hR : R (.returned (.tuple #[v, v'])) L) : bodyPost P fn (fun e w' => ∃ L', R e L' ∧ St g w' L') .ret (mk n ρ []) w :=
  bodyPost_ret (v := .tuple #[v, v']) (by rw [results_tmp2 h, mk_getD, mk_getD, hv, hv']; rfl) rfl ⟨L, hR, H⟩
end
end Go.Proofs.YtegllbmkkfnajaaGreatDoor
end
section
namespace Go.Proofs.YtegllbmkkfnajaaGreatDoor
open Go Go.RowKit
theorem least {α : Type} (p : α → Prop) (m : α → Nat) (h : ∃ x, p x) : ∃ x, p x ∧ ∀ y, p y → m x ≤ m y := by
  obtain ⟨x, hx⟩ := h
  have key : ∀ n, ∀ x, p x → m x = n → ∃ x, p x ∧ ∀ y, p y → m x ≤ m y := by
    intro n
    induction n using Nat.strongRecOn with
    | _ n ih =>
      intro x hx hn
      by_cases hl : ∃ y, p y ∧ m y < m x
      · obtain ⟨y, hy, hlt⟩ := hl
        exact ih (m y) (hn ▸ hlt) y hy rfl
      · exact ⟨x, hx, fun y hy => Nat.le_of_not_lt fun hlt => hl ⟨y, hy, hlt⟩⟩
  exact key _ x hx rfl
section
variable {P : Program} {n : Nat} {ρ : Env} {ds : List Deferred} {Q : Exit → Act → World → Prop} {w : World} {g : Gh} {c : Code}
theorem lp {α : Type} (r : α → List (Nat × Value)) (C : α → List Asn) (p : α → Prop) (m : α → Nat) (x0 : α) (h0 : Regs ρ (r x0)) (hp : p x0) (H : St g w (C x0))
    (round : ∀ x ρ w, p x → St g w (C x) → ∀ K : Act → World → Prop, (∀ ρ' w' x', Regs ρ' (r x') → p x' → St g w' (C x') → m x' < m x → K (mk n ρ' ds) w') → c.wp P (Exit.then K Q) (mk n (regs ρ (r x)) ds) w) :
    (Code.loop c).wp P Q (mk n ρ ds) w := by
  let I : α → Act → World → Prop := fun x a w => ∃ ρ, a = mk n (regs ρ (r x)) ds ∧ p x ∧ St g w (C x)
  have hex : ∀ aw : Act × World, ∃ k : Nat, (∀ x, I x aw.1 aw.2 → k ≤ m x) ∧ ((∃ x, I x aw.1 aw.2) → ∃ x, I x aw.1 aw.2 ∧ m x = k) := by
    intro aw
    by_cases h : ∃ x, I x aw.1 aw.2
    · obtain ⟨x, hx, hle⟩ := least _ m h
      exact ⟨m x, hle, fun _ => ⟨x, hx, rfl⟩⟩
    · exact ⟨0, fun _ _ => Nat.zero_le _, fun hh => absurd hh h⟩
  obtain ⟨μ, hμ⟩ := Classical.axiomOfChoice hex
  refine wp_loop (fun a w => ∃ x, I x a w) (fun a w => μ (a, w)) ⟨x0, ρ, by rw [← h0.eq], hp, H⟩ (fun a w hI => ?_)
  obtain ⟨x, ⟨ρ1, ha, hp1, H1⟩, hx⟩ := (hμ (a, w)).2 hI
  simp only at ha hx H1
  rw [← hx, ha]
  refine round x ρ1 w hp1 H1 _ (fun ρ' w' x' hr' hp' H' hlt => ?_)
  have hI' : I x' (mk n ρ' ds) w' := ⟨ρ', by rw [← hr'.eq], hp', H'⟩
  exact ⟨⟨x', hI'⟩, Nat.lt_of_le_of_lt ((hμ (_, _)).1 x' hI') hlt⟩
theorem cutK {α : Type} {K : Act → World → Prop} (r : α → List (Nat × Value)) (C : α → List Asn) (p : α → Prop)
    (first : ∀ K' : Act → World → Prop, (∀ ρ' w' x', Regs ρ' (r x') → p x' → St g w' (C x') → K' (mk n ρ' ds) w') → c.wp P (Exit.then K' Q) (mk n ρ ds) w)
    (rest : ∀ x ρ w, p x → St g w (C x) → K (mk n (regs ρ (r x)) ds) w) : c.wp P (Exit.then K Q) (mk n ρ ds) w :=
  first K (fun ρ' w' x' hr hp H => by rw [hr.eq]; exact rest x' ρ' w' hp H)
theorem lp2 {α β : Type} (r : α → β → List (Nat × Value)) (C : α → β → List Asn) (p : α → β → Prop) (m : α → β → Nat) (a0 : α) (b0 : β) (h0 : Regs ρ (r a0 b0)) (hp : p a0 b0) (H : St g w (C a0 b0))
    (round : ∀ (a : α) (b : β) ρ w, p a b → St g w (C a b) → ∀ K : Act → World → Prop, (∀ ρ' w' (a' : α) (b' : β), Regs ρ' (r a' b') → p a' b' → St g w' (C a' b') → m a' b' < m a b → K (mk n ρ' ds) w') → c.wp P (Exit.then K Q) (mk n (regs ρ (r a b)) ds) w) :
    (Code.loop c).wp P Q (mk n ρ ds) w :=
  lp (α := α × β) (fun x => r x.1 x.2) (fun x => C x.1 x.2) (fun x => p x.1 x.2) (fun x => m x.1 x.2) (a0, b0) h0 hp H (fun x ρ w h1 h2 K hK => round x.1 x.2 ρ w h1 h2 K (fun ρ' w' a' b' e1 e2 e3 e4 => hK ρ' w' (a', b') e1 e2 e3 e4))
theorem lp3 {α β γ : Type} (r : α → β → γ → List (Nat × Value)) (C : α → β → γ → List Asn) (p : α → β → γ → Prop) (m : α → β → γ → Nat) (a0 : α) (b0 : β) (c10 : γ) (h0 : Regs ρ (r a0 b0 c10)) (hp : p a0 b0 c10) (H : St g w (C a0 b0 c10))
    (round : ∀ (a : α) (b : β) (c1 : γ) ρ w, p a b c1 → St g w (C a b c1) → ∀ K : Act → World → Prop, (∀ ρ' w' (a' : α) (b' : β) (c1' : γ), Regs ρ' (r a' b' c1') → p a' b' c1' → St g w' (C a' b' c1') → m a' b' c1' < m a b c1 → K (mk n ρ' ds) w') → c.wp P (Exit.then K Q) (mk n (regs ρ (r a b c1)) ds) w) :
    (Code.loop c).wp P Q (mk n ρ ds) w :=
  lp (α := α × β × γ) (fun x => r x.1 x.2.1 x.2.2) (fun x => C x.1 x.2.1 x.2.2) (fun x => p x.1 x.2.1 x.2.2) (fun x => m x.1 x.2.1 x.2.2) (a0, b0, c10) h0 hp H (fun x ρ w h1 h2 K hK => round x.1 x.2.1 x.2.2 ρ w h1 h2 K (fun ρ' w' a' b' c1' e1 e2 e3 e4 => hK ρ' w' (a', b', c1') e1 e2 e3 e4))
theorem lp4 {α β γ δ : Type} (r : α → β → γ → δ → List (Nat × Value)) (C : α → β → γ → δ → List Asn) (p : α → β → γ → δ → Prop) (m : α → β → γ → δ → Nat) (a0 : α) (b0 : β) (c10 : γ) (d10 : δ) (h0 : Regs ρ (r a0 b0 c10 d10)) (hp : p a0 b0 c10 d10) (H : St g w (C a0 b0 c10 d10))
    (round : ∀ (a : α) (b : β) (c1 : γ) (d1 : δ) ρ w, p a b c1 d1 → St g w (C a b c1 d1) → ∀ K : Act → World → Prop, (∀ ρ' w' (a' : α) (b' : β) (c1' : γ) (d1' : δ), Regs ρ' (r a' b' c1' d1') → p a' b' c1' d1' → St g w' (C a' b' c1' d1') → m a' b' c1' d1' < m a b c1 d1 → K (mk n ρ' ds) w') → c.wp P (Exit.then K Q) (mk n (regs ρ (r a b c1 d1)) ds) w) :
    (Code.loop c).wp P Q (mk n ρ ds) w :=
  lp (α := α × β × γ × δ) (fun x => r x.1 x.2.1 x.2.2.1 x.2.2.2) (fun x => C x.1 x.2.1 x.2.2.1 x.2.2.2) (fun x => p x.1 x.2.1 x.2.2.1 x.2.2.2) (fun x => m x.1 x.2.1 x.2.2.1 x.2.2.2) (a0, b0, c10, d10) h0 hp H (fun x ρ w h1 h2 K hK => round x.1 x.2.1 x.2.2.1 x.2.2.2 ρ w h1 h2 K (fun ρ' w' a' b' c1' d1' e1 e2 e3 e4 => hK ρ' w' (a', b', c1', d1') e1 e2 e3 e4))
theorem lp5 {α β γ δ ε : Type} (r : α → β → γ → δ → ε → List (Nat × Value)) (C : α → β → γ → δ → ε → List Asn) (p : α → β → γ → δ → ε → Prop) (m : α → β → γ → δ → ε → Nat) (a0 : α) (b0 : β) (c10 : γ) (d10 : δ) (e10 : ε) (h0 : Regs ρ (r a0 b0 c10 d10 e10)) (hp : p a0 b0 c10 d10 e10) (H : St g w (C a0 b0 c10 d10 e10))
    (round : ∀ (a : α) (b : β) (c1 : γ) (d1 : δ) (e1 : ε) ρ w, p a b c1 d1 e1 → St g w (C a b c1 d1 e1) → ∀ K : Act → World → Prop, (∀ ρ' w' (a' : α) (b' : β) (c1' : γ) (d1' : δ) (e1' : ε), Regs ρ' (r a' b' c1' d1' e1') → p a' b' c1' d1' e1' → St g w' (C a' b' c1' d1' e1') → m a' b' c1' d1' e1' < m a b c1 d1 e1 → K (mk n ρ' ds) w') → c.wp P (Exit.then K Q) (mk n (regs ρ (r a b c1 d1 e1)) ds) w) :
    (Code.loop c).wp P Q (mk n ρ ds) w :=
  lp (α := α × β × γ × δ × ε) (fun x => r x.1 x.2.1 x.2.2.1 x.2.2.2.1 x.2.2.2.2) (fun x => C x.1 x.2.1 x.2.2.1 x.2.2.2.1 x.2.2.2.2) (fun x => p x.1 x.2.1 x.2.2.1 x.2.2.2.1 x.2.2.2.2) (fun x => m x.1 x.2.1 x.2.2.1 x.2.2.2.1 x.2.2.2.2) (a0, b0, c10, d10, e10) h0 hp H (fun x ρ w h1 h2 K hK => round x.1 x.2.1 x.2.2.1 x.2.2.2.1 x.2.2.2.2 ρ w h1 h2 K (fun ρ' w' a' b' c1' d1' e1' e1 e2 e3 e4 => hK ρ' w' (a', b', c1', d1', e1') e1 e2 e3 e4))
theorem cutK2 {α β : Type} {K : Act → World → Prop} (r : α → β → List (Nat × Value)) (C : α → β → List Asn) (p : α → β → Prop)
    (first : ∀ K' : Act → World → Prop, (∀ ρ' w' (a' : α) (b' : β), Regs ρ' (r a' b') → p a' b' → St g w' (C a' b') → K' (mk n ρ' ds) w') → c.wp P (Exit.then K' Q) (mk n ρ ds) w)
    (rest : ∀ (a : α) (b : β) ρ w, p a b → St g w (C a b) → K (mk n (regs ρ (r a b)) ds) w) : c.wp P (Exit.then K Q) (mk n ρ ds) w :=
  cutK (α := α × β) (fun x => r x.1 x.2) (fun x => C x.1 x.2) (fun x => p x.1 x.2) (fun K' hK => first K' (fun ρ' w' a' b' e1 e2 e3 => hK ρ' w' (a', b') e1 e2 e3)) (fun x ρ w h1 h2 => rest x.1 x.2 ρ w h1 h2)
theorem cutK3 {α β γ : Type} {K : Act → World → Prop} (r : α → β → γ → List (Nat × Value)) (C : α → β → γ → List Asn) (p : α → β → γ → Prop)
    (first : ∀ K' : Act → World → Prop, (∀ ρ' w' (a' : α) (b' : β) (c1' : γ), Regs ρ' (r a' b' c1') → p a' b' c1' → St g w' (C a' b' c1') → K' (mk n ρ' ds) w') → c.wp P (Exit.then K' Q) (mk n ρ ds) w)
    (rest : ∀ (a : α) (b : β) (c1 : γ) ρ w, p a b c1 → St g w (C a b c1) → K (mk n (regs ρ (r a b c1)) ds) w) : c.wp P (Exit.then K Q) (mk n ρ ds) w :=
  cutK (α := α × β × γ) (fun x => r x.1 x.2.1 x.2.2) (fun x => C x.1 x.2.1 x.2.2) (fun x => p x.1 x.2.1 x.2.2) (fun K' hK => first K' (fun ρ' w' a' b' c1' e1 e2 e3 => hK ρ' w' (a', b', c1') e1 e2 e3)) (fun x ρ w h1 h2 => rest x.1 x.2.1 x.2.2 ρ w h1 h2)
theorem cutK4 {α β γ δ : Type} {K : Act → World → Prop} (r : α → β → γ → δ → List (Nat × Value)) (C : α → β → γ → δ → List Asn) (p : α → β → γ → δ → Prop)
    (first : ∀ K' : Act → World → Prop, (∀ ρ' w' (a' : α) (b' : β) (c1' : γ) (d1' : δ), Regs ρ' (r a' b' c1' d1') → p a' b' c1' d1' → St g w' (C a' b' c1' d1') → K' (mk n ρ' ds) w') → c.wp P (Exit.then K' Q) (mk n ρ ds) w)
    (rest : ∀ (a : α) (b : β) (c1 : γ) (d1 : δ) ρ w, p a b c1 d1 → St g w (C a b c1 d1) → K (mk n (regs ρ (r a b c1 d1)) ds) w) : c.wp P (Exit.then K Q) (mk n ρ ds) w :=
  cutK (α := α × β × γ × δ) (fun x => r x.1 x.2.1 x.2.2.1 x.2.2.2) (fun x => C x.1 x.2.1 x.2.2.1 x.2.2.2) (fun x => p x.1 x.2.1 x.2.2.1 x.2.2.2) (fun K' hK => first K' (fun ρ' w' a' b' c1' d1' e1 e2 e3 => hK ρ' w' (a', b', c1', d1') e1 e2 e3)) (fun x ρ w h1 h2 => rest x.1 x.2.1 x.2.2.1 x.2.2.2 ρ w h1 h2)
theorem cutK5 {α β γ δ ε : Type} {K : Act → World → Prop} (r : α → β → γ → δ → ε → List (Nat × Value)) (C : α → β → γ → δ → ε → List Asn) (p : α → β → γ → δ → ε → Prop)
    (first : ∀ K' : Act → World → Prop, (∀ ρ' w' (a' : α) (b' : β) (c1' : γ) (d1' : δ) (e1' : ε), Regs ρ' (r a' b' c1' d1' e1') → p a' b' c1' d1' e1' → St g w' (C a' b' c1' d1' e1') → K' (mk n ρ' ds) w') → c.wp P (Exit.then K' Q) (mk n ρ ds) w)
    (rest : ∀ (a : α) (b : β) (c1 : γ) (d1 : δ) (e1 : ε) ρ w, p a b c1 d1 e1 → St g w (C a b c1 d1 e1) → K (mk n (regs ρ (r a b c1 d1 e1)) ds) w) : c.wp P (Exit.then K Q) (mk n ρ ds) w :=
  cutK (α := α × β × γ × δ × ε) (fun x => r x.1 x.2.1 x.2.2.1 x.2.2.2.1 x.2.2.2.2) (fun x => C x.1 x.2.1 x.2.2.1 x.2.2.2.1 x.2.2.2.2) (fun x => p x.1 x.2.1 x.2.2.1 x.2.2.2.1 x.2.2.2.2) (fun K' hK => first K' (fun ρ' w' a' b' c1' d1' e1' e1 e2 e3 => hK ρ' w' (a', b', c1', d1', e1') e1 e2 e3)) (fun x ρ w h1 h2 => rest x.1 x.2.1 x.2.2.1 x.2.2.2.1 x.2.2.2.2 ρ w h1 h2)
end
def Ret (V : Value → List Asn → Prop) : Ending → List Asn → Prop := fun e L => ∃ v, e = .returned v ∧ V v L
def apA : List Asn → List Asn → Option (List Asn)
  | [], M => some M
  | A :: L, M => match apA L M with | some K => some (A :: K) | none => none
theorem apA_eq : ∀ {L M K : List Asn}, apA L M = some K → K = L ++ M
  | [], M, K, h => by simp [apA] at h; simp [h]
  | A :: L, M, K, h => by
    simp only [apA] at h
    split at h
    · rename_i K' hk; simp at h; subst h; rw [apA_eq hk]; rfl
    · cases h
theorem St.ap {g : Gh} {w : World} {L M K : List Asn} (h : St g w (L ++ M)) (e : apA L M = some K) : St g w K := by rw [apA_eq e]; exact h
section
variable {P : Program} {ops : Array Oper} {Q : Exit → Act → World → Prop} {rest : List Oper} {n d ty : Nat} {pos : String} {af : Array Edge} {ρ : Env} {ds : List Deferred} {w w' : World} {g : Gh} {L : List Asn}
variable {f : FuncId} {fv : Operand} {xs : List Operand} {ats : Array TypeId} {args xas p q pa : List Value} {S M : List Asn} {V : Value → List Asn → Prop}
theorem xc (ks : List Nat) (H : St g w L) (c : Fn P f args S (Ret V)) (hf : ev n ρ fv = some (.func (.func f) p.toArray q.toArray)) (ha : evl n ρ xs = some xas) (hpa : apV p xas = some pa) (hpq : apV pa q = some args) (hk : pick ks L = some (S, M))
    (h : ∀ v L' w', V v L' → St g w' (L' ++ M) → wpList P ops Q rest (mk n (upd ρ d v) ds) w') :
    wpList P ops Q (⟨some d, .call { callee := .value fv, args := xs.toArray, argTypes := ats }, ty, pos, af, none⟩ :: rest) (mk n ρ ds) w :=
  xca ks H c hf ha hpa hpq hk (fun _ _ ⟨v, e, _⟩ => ⟨v, e⟩) fun v L' w' ⟨v', e, hv⟩ H' => by
    cases e; exact h v L' w' hv H'
end
section
variable {P : Program} {n : Nat} {ρ : Env} {w : World} {g : Gh} {fn : Func} {V : Value → List Asn → Prop} {L : List Asn}
theorem r0 (h : fn.results = #[]) (H : St g w L) (hR : V (.tuple #[]) L) : bodyPost P fn (fun e w' => ∃ L', Ret V e L' ∧ St g w' L') .ret (mk n ρ []) w := rt0 h H ⟨_, rfl, hR⟩
theorem n0 (h : fn.results = #[]) (H : St g w L) (hR : V (.tuple #[]) L) : bodyPost P fn (fun e w' => ∃ L', Ret V e L' ∧ St g w' L') .normal (mk n ρ []) w := rn0 h H ⟨_, rfl, hR⟩
theorem r1 {t : Nat} {v : Value} (h : fn.results = #[.tmp t]) (hv : ev n ρ (.tmp t) = some v) (H : St g w L) (hR : V v L) : bodyPost P fn (fun e w' => ∃ L', Ret V e L' ∧ St g w' L') .ret (mk n ρ []) w := rt1 h hv H ⟨_, rfl, hR⟩
theorem r2 {t u : Nat} {v v' : Value} (h : fn.results = #[.tmp t, .tmp u]) (hv : ev n ρ (.tmp t) = some v) (hv' : ev n ρ (.tmp u) = some v') (H : St g w L) (hR : V (.tuple #[v, v']) L) : bodyPost P fn (fun e w' => ∃ L', Ret V e L' ∧ St g w' L') .ret (mk n ρ []) w := rt2 h hv hv' H ⟨_, rfl, hR⟩
theorem r3 {t u s : Nat} {v v' v'' : Value} (h : fn.results = #[.tmp t, .tmp u, .tmp s]) (hv : ev n ρ (.tmp t) = some v) (hv' : ev n ρ (.tmp u) = some v') (hv'' : ev n ρ (.tmp s) = some v'') (H : St g w L) (hR : V (.tuple #[v, v', v'']) L) : bodyPost P fn (fun e w' => ∃ L', Ret V e L' ∧ St g w' L') .ret (mk n ρ []) w :=
  bodyPost_ret (v := .tuple #[v, v', v'']) (by
    have e1 := mk_eval (ds := []) hv; have e2 := mk_eval (ds := []) hv'; have e3 := mk_eval (ds := []) hv''
    simp only [Act.eval, Array.getD_eq_getD_getElem?] at e1 e2 e3
    simp [results, h, e1, e2, e3]) rfl ⟨L, ⟨_, rfl, hR⟩, H⟩
end
theorem wi64 {a : Int} (h : -9223372036854775808 ≤ a ∧ a ≤ 9223372036854775807) : IntKind.i64.wrap a = a := IntWalk.i64_in _ h
theorem wu64 {a : Int} (h : 0 ≤ a ∧ a < 18446744073709551616) : IntKind.u64.wrap a = a := by
  simp only [IntKind.wrap, IntKind.signed, IntKind.bits]; simp; omega
theorem wu32 {a : Int} (h : 0 ≤ a ∧ a < 4294967296) : IntKind.u32.wrap a = a := by
  simp only [IntKind.wrap, IntKind.signed, IntKind.bits]; simp; omega
theorem wu8 {a : Int} (h : 0 ≤ a ∧ a < 256) : IntKind.u8.wrap a = a := by
  simp only [IntKind.wrap, IntKind.signed, IntKind.bits]; simp; omega
theorem wi32 {a : Int} (h : -2147483648 ≤ a ∧ a ≤ 2147483647) : IntKind.i32.wrap a = a := by
  simp only [IntKind.wrap, IntKind.signed, IntKind.bits]; simp; omega
end Go.Proofs.YtegllbmkkfnajaaGreatDoor
end
section
namespace Go.Proofs.YtegllbmkkfnajaaGreatDoor
open Go Go.RowKit
section
variable {P : Program} {n m fuel i id d ty : Nat} {ρ : Env} {ds : List Deferred} {Q : Exit → Act → World → Prop} {w : World} {g : Gh} {L : List Asn} {l : List Oper} {S : World → Prop} {listed : Array Bool} {pos : String} {af : Array Edge} {op : Op}
def NormQ (ds : List Deferred) (Rp : List PanicEntry → World → Prop) (Q : Exit → Act → World → Prop) : Exit → Act → World → Prop :=
  fun e a w => (e = .normal ∧ Q .normal a w) ∨ ∃ c, e = .panic c ∧ a.defers = ds ∧ Rp c w
def AnyZ (P : Program) (l : List Oper) (Q : Exit → Act → World → Prop) (S : World → Prop) (z : Nat) : Nat → Array Bool → Act → World → Prop
  | 0, listed, a, w => Region.ready .any l.toArray listed = [] ∧ Q .normal a w
  | fuel + 1, listed, a, w => (Region.ready .any l.toArray listed = [] → Q .normal a w) ∧
      ∀ i ∈ Region.ready .any l.toArray listed, wpOp P l.toArray Q i (fun a' w' => (i ≠ z → S w') ∧ AnyZ P l Q S z fuel (listed.setIfInBounds i true) a' w') a w
theorem any_of_Z {z : Nat} : ∀ (fuel : Nat) (listed : Array Bool) (a : Act) (w : World), AnyZ P l Q S z fuel listed a w → wpAny P .any l.toArray Q fuel listed a w
  | 0, _, _, _, h => h
  | fuel + 1, _, _, _, h => ⟨h.1, fun i hi => wpOp_mono (fun _ _ h' => any_of_Z fuel _ _ _ h'.2) (h.2 i hi)⟩
theorem anyZ_first {i z : Nat} {oi : Oper} {v : Value} (hi : l.toArray[i]? = some oi) (hsel : ∀ (j : Nat) (o : Oper) cs b, l.toArray[j]? = some o → o.op ≠ .select cs b)
    (hQ : ∀ c a w, Q (.panic c) (a.put oi.dst v) w → Q (.panic c) a w) (hiz : i ≠ z) (hz : ∀ oz, l.toArray[z]? = some oz → ∃ e ∈ oz.after, Region.binds .any e = true ∧ e.on = i) :
    ∀ (fuel : Nat) (listed : Array Bool) (a : Act) (w : World),
      (∀ j oj, l.toArray[j]? = some oj → j ≠ i → listed.getD j true = false → (∀ e ∈ oj.after, Region.binds .any e = true → e.on ≠ i) → oi.apart l.toArray oj = true) →
      i ∈ Region.ready .any l.toArray listed → YieldsIf P l.toArray S oi v a → S w →
      AnyZ P l Q S z fuel (listed.setIfInBounds i true) (a.put oi.dst v) w → AnyZ P l Q S z (fuel + 1) listed a w := by
  intro fuel
  induction fuel with
  | zero =>
    intro listed a w _ hr hy hS H
    refine ⟨fun h => (by rw [h] at hr; cases hr), fun j hj => ?_⟩
    by_cases hji : j = i
    · subst hji; exact hy.wpOp hi hS ⟨fun _ => hS, H⟩
    · have := ready_mono hj hji
      rw [H.1] at this
      cases this
  | succ fuel ih =>
    intro listed a w hfree hr hy hS H
    refine ⟨fun h => (by rw [h] at hr; cases hr), fun j hj => ?_⟩
    by_cases hji : j = i
    · subst hji; exact hy.wpOp hi hS ⟨fun _ => hS, H⟩
    · have h1 := H.2 j (ready_mono hj hji)
      obtain ⟨hjun, oj, hoj, hall⟩ := mem_ready.1 hj
      have hno : listed.getD i false = true → False := fun h1 => by
        have h0 := (mem_ready.1 hr).1
        rcases Nat.lt_or_ge i listed.size with h' | h'
        · simp [h'] at h0 h1; rw [h0] at h1; cases h1
        · simp [Array.getElem?_eq_none h'] at h1
      have hjz : j ≠ z := fun e => by
        subst e
        obtain ⟨e, he, hb, hon⟩ := hz oj hoj
        have := hall e he hb
        rw [hon] at this; exact hno this
      have hnot : ∀ e ∈ oj.after, Region.binds .any e = true → e.on ≠ i := fun e he hb heq => by
        have h1 := hall e he hb
        rw [heq] at h1; exact hno h1
      have h2 := wpOp_putIf hoj (hfree j oj hoj hji hjun hnot) (fun cs b => hsel i oi cs b hi) (fun cs b => hsel j oj cs b hoj) hQ hy h1
      have hfree' : ∀ k ok, l.toArray[k]? = some ok → k ≠ i → (listed.setIfInBounds j true).getD k true = false →
          (∀ e ∈ ok.after, Region.binds .any e = true → e.on ≠ i) → oi.apart l.toArray ok = true := fun k ok hk hki hun hno => by
        refine hfree k ok hk hki ?_ hno
        by_cases hjk : j = k
        · subst hjk; exact hjun
        · rw [getD_set_ne true hjk] at hun; exact hun
      refine wpOp_mono (fun a' w' h3 => ⟨h3.2.1, ih (listed.setIfInBounds j true) a' w' hfree' (ready_mono hr (Ne.symm hji)) h3.1 (h3.2.1 hjz) ?_⟩) h2
      rw [Array.setIfInBounds_comm _ _ hji]
      exact h3.2.2
abbrev AnyH (P : Program) (l : List Oper) (ds : List Deferred) (Rp : List PanicEntry → World → Prop) (Q : Exit → Act → World → Prop) (S : World → Prop) (z : Nat) (fuel : Nat) (listed : Array Bool) (a : Act) (w : World) : Prop := AnyZ P l (NormQ ds Rp Q) S z fuel listed a w
variable {Rp : List PanicEntry → World → Prop} {z : Nat}
theorem drw (S : World → Prop) (Rp : List PanicEntry → World → Prop) (z : Nat) (hm : P.follows .mixedOrders = true) (hl : Nat.beq l.length m = true) (hR : ∀ c a w, a.defers = ds → Rp c w → Q (.panic c) a w) (H : St g w L)
    (h : ∀ w', St g w' L → AnyH P l ds Rp Q S z m (Array.replicate m false) (mk n ρ ds) w') : (Code.region id l.toArray true).wp P Q (mk n ρ ds) w := by
  have hl' : l.toArray.size = m := by simpa using Nat.eq_of_beq_eq_true hl
  have h1 := h w.drew H.drew
  have h2 : (Code.region id l.toArray true).wp P (NormQ ds Rp Q) (mk n ρ ds) w := by
    refine wp_region_any hm (any_of_Z (S := S) (z := z) _ _ _ _ ?_)
    rw [hl']; exact h1
  refine Code.wp_mono (fun e a w he => ?_) h2
  rcases he with ⟨rfl, he⟩ | ⟨c, rfl, hd, he⟩
  · exact he
  · exact hR c a w hd he
def nthO : List Oper → Nat → Option Oper
  | [], _ => none
  | o :: _, 0 => some o
  | _ :: l, k + 1 => nthO l k
theorem nthO_eq : ∀ {l : List Oper} {k : Nat} {o : Oper}, nthO l k = some o → l.toArray[k]? = some o
  | [], _, _, h => by simp [nthO] at h
  | o :: l, 0, _, h => by simpa [nthO] using h
  | o :: l, k + 1, _, h => by
    have := nthO_eq (l := l) h
    simpa using this
def zOk (l : List Oper) (z i : Nat) : Bool := !(Nat.beq i z) && (match nthO l z with | none => true | some oz => oz.after.toList.any fun e => Region.binds .any e && e.on == i)
theorem nthO_none : ∀ {l : List Oper} {k : Nat}, nthO l k = none → l.toArray[k]? = none
  | [], _, _ => by simp
  | o :: l, 0, h => by simp [nthO] at h
  | o :: l, k + 1, h => by
    have := nthO_none (l := l) h
    simpa using this
theorem zOk_spec {i : Nat} (h : zOk l z i = true) : i ≠ z ∧ ∀ oz, l.toArray[z]? = some oz → ∃ e ∈ oz.after, Region.binds .any e = true ∧ e.on = i := by
  simp only [zOk, Bool.and_eq_true] at h
  refine ⟨fun e => by subst e; simp at h, fun oz ho => ?_⟩
  cases hn : nthO l z with
  | none => rw [nthO_none hn] at ho; cases ho
  | some o' =>
    rw [nthO_eq hn] at ho; cases ho
    have h2 := h.2
    rw [hn] at h2; simp only at h2
    obtain ⟨e, he, hb⟩ := List.any_eq_true.1 h2
    simp only [Bool.and_eq_true, beq_iff_eq] at hb
    exact ⟨e, by simpa using he, hb⟩
def freeB (l : List Oper) (listed : Array Bool) (z i : Nat) : Bool := Region.noSelect l.toArray && Region.free .any l.toArray listed i && (Region.ready .any l.toArray listed).contains i && zOk l z i
theorem normQ_put {x : Option Tmp} {v : Value} (c : List PanicEntry) (a : Act) (w : World) (h : NormQ ds Rp Q (.panic c) (a.put x v) w) : NormQ ds Rp Q (.panic c) a w := by
  rcases h with ⟨h, _⟩ | ⟨c', e, hd, hr⟩
  · cases h
  · refine .inr ⟨c', e, ?_, hr⟩
    cases x <;> exact hd
theorem dt (i : Nat) {v : Value} (hi : nthO l i = some ⟨some d, op, ty, pos, af, none⟩) (hf : freeB l listed z i = true) (hS : S w)
    (hy : ∀ w, S w → (execOp (mk n ρ ds).eval ⟨some d, op, ty, pos, af, none⟩).run P w = .ok (.value v) w)
    (h : AnyH P l ds Rp Q S z fuel (listed.setIfInBounds i true) (mk n (upd ρ d v) ds) w) : AnyH P l ds Rp Q S z (fuel + 1) listed (mk n ρ ds) w := by
  simp only [freeB, Bool.and_eq_true] at hf
  refine anyZ_first (nthO_eq hi) (Region.noSelect_spec hf.1.1.1) normQ_put (zOk_spec hf.2).1 (zOk_spec hf.2).2 _ _ _ _ (Region.free_spec (nthO_eq hi) hf.1.1.2) (by simpa using hf.1.2) (.inl ⟨by simp [Region.wanted], hy⟩) hS ?_
  rw [mk_put]; exact h
theorem dt' (i : Nat) {v : Value} (hi : nthO l i = some ⟨some d, op, ty, pos, af, none⟩) (hf : freeB l listed z i = true) (hS : S w)
    (hy : ∀ w, (execOp (mk n ρ ds).eval ⟨some d, op, ty, pos, af, none⟩).run P w = .ok (.value v) w)
    (h : AnyH P l ds Rp Q S z fuel (listed.setIfInBounds i true) (mk n (upd ρ d v) ds) w) : AnyH P l ds Rp Q S z (fuel + 1) listed (mk n ρ ds) w :=
  dt i hi hf hS (fun w _ => hy w) h
theorem dgn (i : Nat) {j t : Nat} {b b' : Bool} (hi : nthO l i = some ⟨some d, op, ty, pos, af, some (j, b)⟩) (hj : guardTmp l.toArray j = some t) (hv : ev n ρ (.tmp t) = some (.bool b')) (hne : (b' == b) = false) (hf : freeB l listed z i = true) (hS : S w)
    (h : AnyH P l ds Rp Q S z fuel (listed.setIfInBounds i true) (mk n (upd ρ d undef) ds) w) : AnyH P l ds Rp Q S z (fuel + 1) listed (mk n ρ ds) w := by
  simp only [freeB, Bool.and_eq_true] at hf
  refine anyZ_first (nthO_eq hi) (Region.noSelect_spec hf.1.1.1) normQ_put (zOk_spec hf.2).1 (zOk_spec hf.2).2 _ _ _ _ (Region.free_spec (nthO_eq hi) hf.1.1.2) (by simpa using hf.1.2) (.inr ⟨?_, rfl⟩) hS ?_
  · simp only [Region.wanted, yielded_mk hj hv]
    cases b <;> cases b' <;> simp at hne ⊢
  · rw [mk_put]; exact h
theorem dgy (i : Nat) {j t : Nat} {b b' : Bool} {v : Value} (hi : nthO l i = some ⟨some d, op, ty, pos, af, some (j, b)⟩) (hj : guardTmp l.toArray j = some t) (hv : ev n ρ (.tmp t) = some (.bool b')) (hne : (b' == b) = true) (hf : freeB l listed z i = true) (hS : S w)
    (hy : ∀ w, S w → (execOp (mk n ρ ds).eval ⟨some d, op, ty, pos, af, none⟩).run P w = .ok (.value v) w)
    (h : AnyH P l ds Rp Q S z fuel (listed.setIfInBounds i true) (mk n (upd ρ d v) ds) w) : AnyH P l ds Rp Q S z (fuel + 1) listed (mk n ρ ds) w := by
  simp only [freeB, Bool.and_eq_true] at hf
  refine anyZ_first (nthO_eq hi) (Region.noSelect_spec hf.1.1.1) normQ_put (zOk_spec hf.2).1 (zOk_spec hf.2).2 _ _ _ _ (Region.free_spec (nthO_eq hi) hf.1.1.2) (by simpa using hf.1.2) (.inl ⟨?_, fun w hw => (hy w hw)⟩) hS ?_
  · simp only [Region.wanted, yielded_mk hj hv]
    cases b <;> cases b' <;> simp at hne ⊢
  · rw [mk_put]; exact h
theorem op_of {K : Act → World → Prop} (i : Nat) {o : Oper} (hi : nthO l i = some o) (h1 : wpList P l.toArray (Exit.then K (NormQ ds Rp Q)) [o] (mk n ρ ds) w) : wpOp P l.toArray (NormQ ds Rp Q) i K (mk n ρ ds) w := by
  unfold wpOp
  rw [nthO_eq hi]
  unfold wpList at h1
  simp only at h1 ⊢
  by_cases hw : Region.wanted o (yielded l.toArray (mk n ρ ds).tmps) = true
  · rw [if_pos hw] at h1 ⊢
    rcases h1 with h1 | ⟨h1, a, w1, h2⟩
    · left
      unfold Oper.wp at h1 ⊢
      generalize (execOp (mk n ρ ds).eval o).run P w = r at h1 ⊢
      cases r with
      | ok x w2 =>
        cases x <;> simp only [Oper.upon] at h1 ⊢
        case enter f args =>
          refine h1.mono fun e w3 he => ?_
          cases e with
          | returned v => exact he
          | panicked c => exact he
          | outgrown => exact he
        all_goals exact h1
      | halt x w2 => cases x <;> simp only [Oper.upon] at h1 ⊢ <;> exact h1
    · right; exact ⟨h1, a, w1, h2⟩
  · rw [if_neg hw] at h1 ⊢
    exact h1
theorem do1 (i : Nat) {o : Oper} (hi : nthO l i = some o) (hr : Region.ready .any l.toArray listed = [i])
    (h : ∀ K : Act → World → Prop, (∀ ρ' w', (i ≠ z → S w') → AnyH P l ds Rp Q S z fuel (listed.setIfInBounds i true) (mk n ρ' ds) w' → K (mk n ρ' ds) w') → wpList P l.toArray (Exit.then K (NormQ ds Rp Q)) [o] (mk n ρ ds) w) : AnyH P l ds Rp Q S z (fuel + 1) listed (mk n ρ ds) w := by
  refine ⟨fun h0 => (by rw [hr] at h0; cases h0), fun k hk => ?_⟩
  have : k = i := by rw [hr] at hk; simpa using hk
  subst this
  exact op_of k hi (h _ (fun _ _ a b => ⟨a, b⟩))
theorem do2 (i j : Nat) {o o' : Oper} (hi : nthO l i = some o) (hj : nthO l j = some o') (hr : Region.ready .any l.toArray listed = [i, j])
    (h1 : ∀ K : Act → World → Prop, (∀ ρ' w', (i ≠ z → S w') → AnyH P l ds Rp Q S z fuel (listed.setIfInBounds i true) (mk n ρ' ds) w' → K (mk n ρ' ds) w') → wpList P l.toArray (Exit.then K (NormQ ds Rp Q)) [o] (mk n ρ ds) w)
    (h2 : ∀ K : Act → World → Prop, (∀ ρ' w', (j ≠ z → S w') → AnyH P l ds Rp Q S z fuel (listed.setIfInBounds j true) (mk n ρ' ds) w' → K (mk n ρ' ds) w') → wpList P l.toArray (Exit.then K (NormQ ds Rp Q)) [o'] (mk n ρ ds) w) : AnyH P l ds Rp Q S z (fuel + 1) listed (mk n ρ ds) w := by
  refine ⟨fun h0 => (by rw [hr] at h0; cases h0), fun k hk => ?_⟩
  rw [hr] at hk
  rcases List.mem_cons.1 hk with rfl | hk
  · exact op_of k hi (h1 _ (fun _ _ a b => ⟨a, b⟩))
  · have : k = j := by simpa using hk
    subst this
    exact op_of k hj (h2 _ (fun _ _ a b => ⟨a, b⟩))
theorem dd (hr : Region.ready .any l.toArray listed = []) (h : Q .normal (mk n ρ ds) w) : AnyH P l ds Rp Q S z fuel listed (mk n ρ ds) w := by
  have h' : NormQ ds Rp Q .normal (mk n ρ ds) w := .inl ⟨rfl, h⟩
  cases fuel with
  | zero => exact ⟨hr, h'⟩
  | succ f => exact ⟨fun _ => h', fun i hi => by rw [hr] at hi; cases hi⟩
theorem gsp {ops : Array Oper} {l' : List Oper} (t : Nat) {b : Bool} (hv : ev n ρ (.tmp t) = some (.bool b)) (h1 : b = true → wpList P ops Q l' (mk n (upd ρ t (.bool true)) ds) w) (h2 : b = false → wpList P ops Q l' (mk n (upd ρ t (.bool false)) ds) w) : wpList P ops Q l' (mk n ρ ds) w := by
  have hρ : ρ t = some (.bool b) := by
    simp only [ev] at hv
    cases h : Nat.blt t n with
    | true => rw [h] at hv; exact hv
    | false => rw [h] at hv; cases hv
  have e : upd ρ t (.bool b) = ρ := by
    funext u
    by_cases hu : u = t
    · subst hu; rw [upd_same, hρ]
    · rw [upd_ne hu]
  cases b with
  | true => have := h1 rfl; rwa [e] at this
  | false => have := h2 rfl; rwa [e] at this
theorem gspH (t : Nat) {b : Bool} (hv : ev n ρ (.tmp t) = some (.bool b)) (h1 : b = true → AnyH P l ds Rp Q S z fuel listed (mk n (upd ρ t (.bool true)) ds) w) (h2 : b = false → AnyH P l ds Rp Q S z fuel listed (mk n (upd ρ t (.bool false)) ds) w) : AnyH P l ds Rp Q S z fuel listed (mk n ρ ds) w := by
  have hρ : ρ t = some (.bool b) := by
    simp only [ev] at hv
    cases h : Nat.blt t n with
    | true => rw [h] at hv; exact hv
    | false => rw [h] at hv; cases hv
  have e : upd ρ t (.bool b) = ρ := by
    funext u
    by_cases hu : u = t
    · subst hu; rw [upd_same, hρ]
    · rw [upd_ne hu]
  cases b with
  | true => have := h1 rfl; rwa [e] at this
  | false => have := h2 rfl; rwa [e] at this
theorem yld {x : Operand} {T b off : Nat} {v : Value} {A : Asn} [TSc P T] (hx : ev n ρ x = some (.pointer (some ⟨b, off, none⟩))) (hS : ∀ w, S w → ∃ F, A.at_ w F) (hc : A.cell ⟨b, off, none⟩ v) :
    ∀ w, S w → (execOp (mk n ρ ds).eval ⟨some d, .load T x, ty, pos, af, none⟩).run P w = .ok (.value v) w := by
  intro w hw
  obtain ⟨F, hF⟩ := hS w hw
  simp only [execOp, mk_eval hx, Instr.loadAt, Instr.sureAddr]; simp [run_loadVar_sc (P := P) (T := T) (hc w F hF)]
theorem ylda {x : Operand} {T b off m : Nat} {vs : List Value} {A : Asn} [TAg P T m] (hx : ev n ρ x = some (.pointer (some ⟨b, off, none⟩))) (hS : ∀ w, S w → ∃ F, A.at_ w F) (hc : Cells A b off vs) (hm : vs.length = m) :
    ∀ w, S w → (execOp (mk n ρ ds).eval ⟨some d, .load T x, ty, pos, af, none⟩).run P w = .ok (.value (.agg vs.toArray)) w := by
  intro w hw
  obtain ⟨F, hF⟩ := hS w hw
  subst hm
  simp only [execOp, mk_eval hx, Instr.loadAt, Instr.sureAddr]; simp [loadVar, TAg.out, TAg.size, hc.run hF]
theorem drws (z : Nat) (hm : P.follows .mixedOrders = true) (hl : Nat.beq l.length m = true) (H : St g w L)
    (h : ∀ w', St g w' L → AnyH P l ds (fun _ _ => False) Q (fun w => St g w L) z m (Array.replicate m false) (mk n ρ ds) w') : (Code.region id l.toArray true).wp P Q (mk n ρ ds) w := drw _ _ z hm hl (fun _ _ _ _ h => h.elim) H h
theorem drwt (hm : P.follows .mixedOrders = true) (hl : Nat.beq l.length m = true) (H : St g w L)
    (h : ∀ w', St g w' L → AnyH P l ds (fun _ _ => False) Q (fun _ => True) 100000 m (Array.replicate m false) (mk n ρ ds) w') : (Code.region id l.toArray true).wp P Q (mk n ρ ds) w := drw _ _ _ hm hl (fun _ _ _ _ h => h.elim) H h
theorem zld {x : Operand} {T b off : Nat} {v : Value} {A : Asn} [TSc P T] (k : Nat) (hx : ev n ρ x = some (.pointer (some ⟨b, off, none⟩))) (hk : nthA L k = some A) (hc : A.cell ⟨b, off, none⟩ v) :
    ∀ w, St g w L → (execOp (mk n ρ ds).eval ⟨some d, .load T x, ty, pos, af, none⟩).run P w = .ok (.value v) w :=
  yld hx (fun _ H => H.nth hk) hc
theorem zldb {x : Operand} {T U b off : Nat} {v : Value} {c : List Value} [TSc P T] (k : Nat) (hx : ev n ρ x = some (.pointer (some ⟨b, off, none⟩))) (hk : nthA L k = some (blk b c U)) (hc : nthV c off = some v) :
    ∀ w, St g w L → (execOp (mk n ρ ds).eval ⟨some d, .load T x, ty, pos, af, none⟩).run P w = .ok (.value v) w :=
  zld k hx hk (blk_cell hc)
theorem zlda {x : Operand} {T b off m : Nat} {vs : List Value} {A : Asn} [TAg P T m] (k : Nat) (hx : ev n ρ x = some (.pointer (some ⟨b, off, none⟩))) (hk : nthA L k = some A) (hc : Cells A b off vs) (hm : vs.length = m) :
    ∀ w, St g w L → (execOp (mk n ρ ds).eval ⟨some d, .load T x, ty, pos, af, none⟩).run P w = .ok (.value (.agg vs.toArray)) w :=
  ylda hx (fun _ H => H.nth hk) hc hm
theorem zldab {x : Operand} {T U b off m : Nat} {vs c c' : List Value} [TAg P T m] (k : Nat) (hx : ev n ρ x = some (.pointer (some ⟨b, off, none⟩))) (hk : nthA L k = some (blk b c U)) (hd : dropV off c = some c') (ht : takeV m c' = some vs) :
    ∀ w, St g w L → (execOp (mk n ρ ds).eval ⟨some d, .load T x, ty, pos, af, none⟩).run P w = .ok (.value (.agg vs.toArray)) w :=
  zlda k hx hk (blk_cells hd ht) (by have e1 := takeV_eq ht; rw [e1.1]; simp; omega)
end
end Go.Proofs.YtegllbmkkfnajaaGreatDoor
end
section
namespace Go.Proofs.YtegllbmkkfnajaaGreatDoor
open Go Go.RowKit
class TEl (P : Program) (E : TypeId) (sz : outParam Nat) (by_ : outParam Nat) (z : outParam (List Value)) : Prop where
  out : ∃ i v, P.info? E = some i ∧ i.size = sz ∧ i.bytes = by_ ∧ i.zero = some v ∧ v.cells = z.toArray
  len : z.length = sz
  pos : 0 < sz
def Rd (A : Asn) (ao : Option Addr) (cells : List Value) : Prop :=
  match ao with
  | some a => a.spot = none ∧ Cells A a.block a.off cells
  | none => cells = []
theorem Rd.some {A : Asn} {ao : Option Addr} {cells : List Value} (h : Rd A ao cells) (hn : cells ≠ []) : ∃ b off, ao = some ⟨b, off, none⟩ ∧ Cells A b off cells := by
  cases ao with
  | none => exact absurd h hn
  | some a => obtain ⟨b, off, s⟩ := a; obtain ⟨h1, h2⟩ := h; simp at h1; subst h1; exact ⟨b, off, rfl, h2⟩
theorem Cells.sub {A : Asn} {b off : Nat} {cells : List Value} (h : Cells A b off cells) (i k : Nat) : Cells A b (off + i) ((cells.drop i).take k) := by
  intro j v hv
  rw [List.getElem?_take] at hv
  split at hv
  · rw [List.getElem?_drop] at hv
    have := h (i + j) v hv
    rwa [← Nat.add_assoc] at this
  · cases hv
theorem Cells.nil {A : Asn} {b off : Nat} : Cells A b off [] := by intro j v hv; simp at hv
def Unfz (c : Array Value) (fr : Nat × Nat) : Prop := fr.2 ≤ fr.1 ∨ c.size ≤ fr.1
def own (ao : Option Addr) (cap : Nat) (E : TypeId) (sz n : Nat) (cells : List Value) : Asn where
  at_ w F := cells.length = n * sz ∧ n ≤ cap ∧ ((cap = 0 ∧ (∀ a, ao = some a → a.spot = none) ∧ ∀ x, ¬ F x) ∨
    ∃ b off c fr, ao = some ⟨b, off, none⟩ ∧ (∀ x, F x ↔ x = b) ∧ w.heap[b]? = some (.cells c E fr) ∧ Unfz c fr ∧ off + cap * sz ≤ c.size ∧ (c.toList.drop off).take (n * sz) = cells)
  keep := by
    rintro w w' F ⟨h1, h2, h3⟩ hk
    refine ⟨h1, h2, ?_⟩
    rcases h3 with h3 | ⟨b, off, c, fr, e, hF, hb, r⟩
    · exact .inl h3
    · exact .inr ⟨b, off, c, fr, e, hF, (hk b ((hF b).2 rfl)).trans hb, r⟩
theorem own_cells {ao : Option Addr} {cap : Nat} {E : TypeId} {sz n : Nat} {cells : List Value} {b off : Nat} (ha : ao = some ⟨b, off, none⟩) : Cells (own ao cap E sz n cells) b off cells := by
  subst ha
  intro j v hv w F ⟨h1, h2, h3⟩
  rcases h3 with ⟨rfl, _, _⟩ | ⟨b', off', c, fr, e, hF, hb, hu, hs, hc⟩
  · have : n = 0 := by omega
    subst this
    simp at h1; subst h1; simp at hv
  · simp at e; obtain ⟨rfl, rfl⟩ := e
    rw [cell_of_heap hb]
    rw [← hc, List.getElem?_take] at hv
    split at hv
    · rw [List.getElem?_drop] at hv; simpa using hv
    · cases hv
theorem own_rd {ao : Option Addr} {cap : Nat} {E : TypeId} {sz n : Nat} {cells : List Value} {w : World} {F : Nat → Prop} (h : (own ao cap E sz n cells).at_ w F) : Rd (own ao cap E sz n cells) ao cells := by
  obtain ⟨h1, h2, h3⟩ := h
  rcases h3 with ⟨rfl, ha, _⟩ | ⟨b', off', c, fr, e, _⟩
  · have : n = 0 := by omega
    subst this
    simp at h1; subst h1
    cases ao with
    | none => rfl
    | some a => exact ⟨ha a rfl, Cells.nil⟩
  · subst e; exact ⟨rfl, own_cells rfl⟩
section
variable {P : Program} {w : World} {g : Gh} {L : List Asn}
theorem St.own0 (ao : Option Addr) (E : TypeId) (sz : Nat) (ha : ∀ a, ao = some a → a.spot = none) (H : St g w L) : St g w (own ao 0 E sz 0 [] :: L) := by
  obtain ⟨F, hF, r⟩ := H
  exact ⟨F, ⟨fun _ => False, F, ⟨by simp, Nat.le_refl _, .inl ⟨rfl, ha, fun _ => id⟩⟩, hF, fun _ x => x.elim, fun b => by simp⟩, r⟩
theorem St.ownNil (E : TypeId) (sz : Nat) (H : St g w L) : St g w (own none 0 E sz 0 [] :: L) := H.own0 none E sz (fun a h => by cases h)
theorem run_storeCells {b off : Nat} {T : TypeId} {fr : Nat × Nat} : ∀ (vs : List Value) (i : Nat) (c : Array Value) (w : World), w.heap[b]? = some (.cells c T fr) → Unfz c fr → off + i + vs.length ≤ c.size → (∀ v ∈ vs, v.oneCell' = true) →
    ∃ w', (storeCells ⟨b, off, none⟩ vs i).run P w = .ok () w' ∧ w'.heap[b]? = some (.cells (c.toList.take (off + i) ++ vs ++ c.toList.drop (off + i + vs.length)).toArray T fr) ∧
      w'.heap.size = w.heap.size ∧ (∀ k, k ≠ b → w'.heap[k]? = w.heap[k]?) ∧ w'.tape = w.tape ∧ w'.os = w.os ∧ w'.output = w.output
  | [], i, c, w, hg, _, _, _ => ⟨w, rfl, by simpa using hg, rfl, fun _ _ => rfl, rfl, rfl, rfl⟩
  | v :: rest, i, c, w, hg, hu, hl, h1 => by
    have hi : off + i < c.size := by simp at hl; omega
    have hadd : (⟨b, off, none⟩ : Addr).add i = ⟨b, off + i, none⟩ := by unfold Addr.add; split <;> simp_all
    have hcell : w.cell? ⟨b, off + i, none⟩ = some c[off + i] := by rw [cell_of_heap hg]; simp [hi]
    have hfro : w.frozen? ⟨b, off + i, none⟩ = false := by
      simp only [World.frozen?, hg]
      rcases hu with hu | hu
      · simp; omega
      · simp; omega
    have hst : (store ((⟨b, off, none⟩ : Addr).add i) v).run P w = .ok () (w.setCell ⟨b, off + i, none⟩ v) := by
      rw [hadd, run_store P w _ v _ (h1 v (by simp)), hcell]
      simp [hfro]
    have hg2 : (w.setCell ⟨b, off + i, none⟩ v).heap[b]? = some (.cells (c.setIfInBounds (off + i) v) T fr) := by
      simp only [World.setCell, Array.getElem?_modify, if_true, hg, Option.map_some]; simp
    obtain ⟨w', hr, hb, hs, hk, r⟩ := run_storeCells (off := off) rest (i + 1) (c.setIfInBounds (off + i) v) _ hg2 (by rcases hu with hu | hu; exact .inl hu; exact .inr (by simpa using hu)) (by simp at hl ⊢; omega) (fun u hu => h1 u (by simp [hu]))
    refine ⟨w', ?_, ?_, hs.trans (by simp), fun k hkb => (hk k hkb).trans ?_, r⟩
    · simp only [storeCells, Sem.run_bind, hst, Result.andThen_ok]; exact hr
    · rw [hb]
      congr 3
      apply List.ext_getElem?
      intro j
      simp only [Array.toList_setIfInBounds, List.getElem?_append, List.length_append, List.length_take, List.length_set, Array.length_toList, List.getElem?_take, List.getElem?_drop, List.getElem?_set, List.length_cons]
      have e1 : min (off + (i + 1)) c.size = off + i + 1 := by omega
      have e2 : min (off + i) c.size = off + i := by omega
      rw [e1, e2]
      by_cases a1 : j < off + i
      · simp [a1, show j < off + i + 1 + rest.length by omega, show j < off + i + 1 by omega, show j < off + i + (rest.length + 1) by omega, show j < off + (i + 1) by omega, show ¬ off + i = j by omega]
      · by_cases a2 : j = off + i
        · subst a2
          simp [show off + i < off + i + 1 + rest.length by omega, show off + i < off + i + 1 by omega, show off + i < off + i + (rest.length + 1) by omega, show off + i < off + (i + 1) by omega, hi]
        · by_cases a3 : j < off + i + 1 + rest.length
          · simp [a3, a1, show ¬ j < off + i + 1 by omega, show j < off + i + (rest.length + 1) by omega]
            rw [show j - (off + i) = (j - (off + i + 1)) + 1 by omega]
            simp
          · simp [a3, show ¬ j < off + i + (rest.length + 1) by omega]
            rw [show off + (i + 1) + rest.length + (j - (off + i + 1 + rest.length)) = off + i + (rest.length + 1) + (j - (off + i + (rest.length + 1))) by omega]
            rw [if_neg (by omega)]
    · simp only [World.setCell, Array.getElem?_modify]; rw [if_neg (fun e => hkb e.symm)]
def Src (P : Program) (w : World) (sz : Nat) (x : Value) (m : Nat) (news : List Value) : Prop :=
  (Builtin.lenOf x).run P w = .ok m w ∧ news.length = m * sz ∧ ∀ k, k ≤ m → ∀ w' : World, w'.heap = w.heap → (Builtin.firstCells sz k x).run P w' = .ok (news.take (k * sz)).toArray w'
theorem src_rd {sz m c : Nat} {ao : Option Addr} {news : List Value} {A : Asn} {F : Nat → Prop} (hA : A.at_ w F) (hr : Rd A ao news) (hl : news.length = m * sz) : Src P w sz (.slice ao m c) m news := by
  refine ⟨rfl, hl, fun k hk w' hw => ?_⟩
  cases ao with
  | none => cases hr; simp [Builtin.firstCells]
  | some a =>
    obtain ⟨b, off, s⟩ := a
    obtain ⟨h1, h2⟩ := hr
    simp at h1; subst h1
    have hA' : A.at_ w' F := A.keep hA (fun b _ => by rw [hw])
    have hle : k * sz ≤ news.length := by rw [hl]; exact Nat.mul_le_mul_right _ hk
    have hc : Cells A b off (news.take (k * sz)) := by have := h2.sub 0 (k * sz); simpa using this
    have hln : (news.take (k * sz)).length = k * sz := by simp; omega
    simp only [Builtin.firstCells]
    rw [← hln]
    have := hc.run (P := P) hA'
    rw [this]; simp
theorem src_str {s : ByteArray} : Src P w 1 (.string s) s.size (s.data.toList.map fun b => .int .u8 b.toNat) := by
  refine ⟨rfl, by simp, fun k hk w' hw => ?_⟩
  simp only [Builtin.firstCells, Sem.run_pure]
  congr 1
  apply Array.ext'
  simp [ByteArray.extract, ByteArray.copySlice]
theorem zeroCells_size (z : Array Value) (n : Nat) : (Builtin.zeroCells z n).size = n * z.size := by simp [Builtin.zeroCells]
class TNi (P : Program) (U : TypeId) : Prop where
  out : (∃ E, P.underlying U = some (.slice E)) ∨ P.underlying U = some .string
theorem run_append_fit {T U E sz n m cap : Nat} {ao : Option Addr} {news : List Value} {x : Value} {ty : TypeId} {i : TypeInfo} [TSl P T E sz] [TNi P U] (hi : P.info? E = some i) (hsz : i.size = sz)
    (hs1 : (Builtin.lenOf x).run P w = .ok m w) (hsm : (Builtin.firstCells sz m x).run P w = .ok news.toArray w) (hfit : n + m ≤ cap) {w' : World}
    (hst : (match ao with | some a => storeCells (a.add (n * sz)) news | none => pure ()).run P w = .ok () w') :
    (Builtin.append_ #[T, U] ty #[.slice ao n cap, x]).run P w = .ok (.slice ao (n + m) cap) w' := by
  subst hsz
  have hT := TSl.out (P := P) (T := T)
  cases ao with
  | none =>
    obtain rfl : w = w' := by simpa using hst
    rcases TNi.out (P := P) (U := U) with ⟨E', hU⟩ | hU <;>
      simp [Builtin.append_, run_underlying hT, run_underlying hU, sizeOf, typeInfo, hi, hs1, hsm, hfit]
  | some a =>
    simp only at hst
    rcases TNi.out (P := P) (U := U) with ⟨E', hU⟩ | hU <;>
      simp [Builtin.append_, run_underlying hT, run_underlying hU, sizeOf, typeInfo, hi, hs1, hsm, hfit, hst]
theorem run_append_new {T U E n m cap : Nat} {ao : Option Addr} {news cells : List Value} {x v : Value} {ty : TypeId} {i : TypeInfo} {sz : Nat} [TSl P T E sz] [TNi P U] (hi : P.info? E = some i) (hz : i.zero = some v)
    (hs1 : (Builtin.lenOf x).run P w = .ok m w) (hsm : ∀ w' : World, w'.heap = w.heap → (Builtin.firstCells i.size m x).run P w' = .ok news.toArray w') (hcs : ∀ w' : World, w'.heap = w.heap → (Builtin.firstCells i.size n (.slice ao n cap)).run P w' = .ok cells.toArray w')
    (hfit : ¬ n + m ≤ cap) (hb : (n + m) * i.bytes ≤ 140737488355328) (hm : n + m ≤ maxLen) :
    (Builtin.append_ #[T, U] ty #[.slice ao n cap, x]).run P w = .ok (.slice (some ⟨w.heap.size, 0, none⟩) (n + m) (grownCap w (n + m) cap E))
      (w.drew.alloc (.cells (cells.toArray ++ news.toArray ++ Builtin.zeroCells v.cells (grownCap w (n + m) cap E - (n + m))) E)) := by
  have hT := TSl.out (P := P) (T := T)
  have h1 := growslice_fits (bytes := i.bytes) (show cap < n + m by omega) hb
  have h63 : ¬ (9223372036854775807 < ((n : Int) + (m : Int))) := by simp only [maxLen] at hm; omega
  have h2 := hsm w.drew rfl
  have h3 := hcs w.drew rfl
  rcases TNi.out (P := P) (U := U) with ⟨E', hU⟩ | hU <;>
    simp [Builtin.append_, run_underlying hT, run_underlying hU, sizeOf, typeInfo, zeroValue, hi, hz, hs1, hfit, h63, Nat.not_lt.2 h1, Question.forced, grownCap, h2, h3, newRow, IntKind.max, IntKind.bits, IntKind.signed] <;>
    (congr 2; apply Array.ext'; simp)
theorem St.turn {w' : World} {A B : Asn} {b : Nat} (H : St g w (A :: L)) (hA : ∀ F, A.at_ w F → F b) (hB : B.at_ w' (fun x => x = b)) (hs : w'.heap.size = w.heap.size)
    (hk : ∀ k, k ≠ b → w'.heap[k]? = w.heap[k]?) (ht : w'.tape = w.tape) (ho : w'.os = w.os) (hout : w'.output = w.output) : St g w' (B :: L) := by
  refine St.frame1 (S' := [B]) H (fun g' h' => ?_)
  obtain ⟨F, ⟨F1, F2, h1, h2, hd, hu⟩, hb, hf, he⟩ := h'
  have hFb : F b := (hu b).2 (.inl (hA F1 h1))
  refine ⟨fun x => x = b, ⟨fun x => x = b, fun _ => False, hB, fun _ => id, fun _ _ x => x, fun x => by simp⟩, ?_, ?_, ?_⟩
  · intro x hx; subst hx; rw [hs]; exact hb _ hFb
  · intro x hx; subst hx; exact hf _ hFb
  · refine ⟨hs ▸ he.size, fun x hlt hx => ?_, ht.trans he.tape, ho.trans he.os, hout.trans he.output⟩
    have hne : x ≠ b := fun e => by
      subst e
      rcases hf x hFb with y | y
      · exact hx y
      · exact absurd hlt (Nat.not_lt.2 y)
    exact (hk x hne).trans (he.old x hlt hx)
theorem St.renew {A B : Asn} {o : Obj} (H : St g w (A :: L)) (hB : B.at_ (w.alloc o) (fun x => x = w.heap.size)) : St g (w.alloc o) (B :: L) := by
  have H1 := (H.drop).alloc o
  refine St.frame1 (S' := [B]) H1 (fun g' h' => ?_)
  obtain ⟨F, ⟨F1, F2, h1, h2, hd, hu⟩, hb, hf, he⟩ := h'
  have hF : ∀ x, F x ↔ x = w.heap.size := fun x => by rw [hu x, h1.1 x]; exact ⟨fun h => h.resolve_right (h2 x), .inl⟩
  refine ⟨fun x => x = w.heap.size, ⟨fun x => x = w.heap.size, fun _ => False, hB, fun _ => id, fun _ _ x => x, fun x => by simp⟩, fun x hx => hb x ((hF x).2 hx), fun x hx => hf x ((hF x).2 hx), he⟩
theorem run_append {T U E sz by_ n m cap : Nat} {z : List Value} {ao : Option Addr} {cells news : List Value} {x : Value} {ty : TypeId} [TSl P T E sz] [TEl P E sz by_ z] [TNi P U]
    (H : St g w (own ao cap E sz n cells :: L)) (hs : Src P w sz x m news) (h1 : ∀ v ∈ news, v.oneCell' = true) (hb : (n + m) * by_ ≤ 140737488355328) (hm : n + m ≤ maxLen) :
    ∃ ao' cap' w', (Builtin.append_ #[T, U] ty #[.slice ao n cap, x]).run P w = .ok (.slice ao' (n + m) cap') w' ∧ St g w' (own ao' cap' E sz (n + m) (cells ++ news) :: L) ∧ (ao' = none → ao = none ∧ m = 0) := by
  obtain ⟨i, v, hi, hsz, hby, hz, hv⟩ := TEl.out (P := P) (E := E)
  have hzl := TEl.len (P := P) (E := E)
  have hpos := TEl.pos (P := P) (E := E)
  obtain ⟨F, hF⟩ := H.nth (k := 0) rfl
  have hrd := own_rd hF
  have hF0 := hF
  obtain ⟨hF1, hF2, hF3⟩ := hF
  obtain ⟨hs1, hs2, hs3⟩ := hs
  have hsm := hs3 m (Nat.le_refl _)
  rw [← hs2, List.take_length] at hsm
  by_cases hfit : n + m ≤ cap
  · by_cases hc0 : cap = 0
    · have hn0 : n = 0 := by omega
      have hm0 : m = 0 := by omega
      subst hn0 hm0 hc0
      have hn : news = [] := List.eq_nil_of_length_eq_zero (by simpa using hs2)
      subst hn
      refine ⟨ao, 0, w, run_append_fit hi hsz hs1 (hsm w rfl) (Nat.le_refl _) ?_, by simpa using H, fun h => ⟨h, rfl⟩⟩
      cases ao <;> rfl
    obtain ⟨b, off, c, fr, rfl, hFb, hh, hu, hsize, hcells⟩ := hF3.resolve_left (fun h => hc0 h.1)
    · have hle : n * sz + news.length ≤ cap * sz := by rw [hs2, ← Nat.add_mul]; exact Nat.mul_le_mul_right _ hfit
      obtain ⟨w', hr, hb', hsz', hk, ht, ho, hout⟩ := run_storeCells (P := P) (off := off) news (n * sz) c w hh hu (by omega) h1
      refine ⟨some ⟨b, off, none⟩, cap, w', run_append_fit hi hsz hs1 (hsm w rfl) hfit ?_, ?_, fun e => by cases e⟩
      · have key : ∀ (vs : List Value) (i : Nat), storeCells ((⟨b, off, none⟩ : Addr).add (n * sz)) vs i = storeCells ⟨b, off, none⟩ vs (n * sz + i) := by
          intro vs
          induction vs with
          | nil => intro i; rfl
          | cons v vs ih =>
            intro i
            simp only [storeCells]
            rw [show ((⟨b, off, none⟩ : Addr).add (n * sz)).add i = (⟨b, off, none⟩ : Addr).add (n * sz + i) by unfold Addr.add; (repeat' split) <;> simp_all <;> omega, ih (i + 1), Nat.add_assoc]
        show (storeCells ((⟨b, off, none⟩ : Addr).add (n * sz)) news 0).run P w = _
        rw [key news 0]; exact hr
      · refine H.turn (b := b) (fun G hG => ?_) ⟨by rw [List.length_append, hF1, hs2, Nat.add_mul], hfit, .inr ⟨b, off, _, fr, rfl, fun _ => Iff.rfl, hb', ?_, ?_, ?_⟩⟩ hsz' hk ht ho hout
        · obtain ⟨b2, off2, c2, fr2, e2, hFb2, hh2, _⟩ := hG.2.2.resolve_left (fun h => hc0 h.1)
          simp at e2; obtain ⟨rfl, rfl⟩ := e2
          exact (hFb2 _).2 rfl
        · rcases hu with hu | hu
          · exact .inl hu
          · refine .inr ?_
            simp only [List.size_toArray, List.length_append, List.length_take, List.length_drop, Array.length_toList]; omega
        · simp only [List.size_toArray, List.length_append, List.length_take, List.length_drop, Array.length_toList]; omega
        · have e : (n + m) * sz = n * sz + news.length := by rw [hs2, Nat.add_mul]
          rw [e]
          apply List.ext_getElem?
          intro j
          have hc : ∀ j : Nat, ((c.toList.drop off).take (n * sz))[j]? = cells[j]? := fun j => by rw [hcells]
          simp only [List.getElem?_take, List.getElem?_drop, List.getElem?_append, List.length_append, List.length_take, Array.length_toList] at hc ⊢
          have e2 : min (off + n * sz) c.size = off + n * sz := by omega
          rw [e2, hF1]
          have hcj := hc j
          by_cases a1 : j < n * sz
          · simp only [a1, if_true] at hcj ⊢
            rw [if_pos (by omega), if_pos (by omega), if_pos (by omega), if_pos (by omega)]; exact hcj
          · rw [if_neg a1]
            by_cases a2 : j < n * sz + news.length
            · rw [if_pos a2, if_pos (by omega), if_neg (by omega)]; congr 1; omega
            · rw [if_neg a2, List.getElem?_eq_none (by omega)]
  · subst hsz hby
    have hcs : ∀ w' : World, w'.heap = w.heap → (Builtin.firstCells i.size n (.slice ao n cap)).run P w' = .ok cells.toArray w' := by
      intro w' hw
      have := (src_rd (P := P) (c := cap) hF0 hrd hF1).2.2 n (Nat.le_refl _) w' hw
      rwa [← hF1, List.take_length] at this
    refine ⟨_, _, _, run_append_new hi hz hs1 hsm hcs hfit hb hm, ?_, fun e => by cases e⟩
    have hge := grownCap_ge w (n + m) cap E
    refine St.renew (w := w.drew) H.drew ⟨by rw [List.length_append, hF1, hs2, Nat.add_mul], hge, .inr ⟨_, 0, _, (0, 0), rfl, fun _ => Iff.rfl, heap_alloc_new _ _, .inl (Nat.le_refl _), ?_, ?_⟩⟩
    · simp only [Array.size_append, List.size_toArray, zeroCells_size, hv, hzl, hF1, hs2, ← Nat.add_mul]
      rw [Nat.zero_add]
      exact Nat.le_of_eq (by congr 1; omega)
    · simp only [List.drop_zero, Array.toList_append]
      rw [List.take_append_of_le_length (by simp [hF1, hs2, Nat.add_mul])]
      exact List.take_of_length_le (by simp [hF1, hs2, Nat.add_mul])
end
end Go.Proofs.YtegllbmkkfnajaaGreatDoor
end
section
namespace Go.Proofs.YtegllbmkkfnajaaGreatDoor
open Go Go.RowKit
def bv (bs : List UInt8) : List Value := bs.map fun b => .int .u8 b.toNat
@[simp] theorem bv_length (bs : List UInt8) : (bv bs).length = bs.length := by simp [bv]
theorem bv_append (a b : List UInt8) : bv (a ++ b) = bv a ++ bv b := by simp [bv]
theorem bv_one (bs : List UInt8) : ∀ v ∈ bv bs, v.oneCell' = true := by intro v hv; simp [bv] at hv; obtain ⟨b, _, rfl⟩ := hv; rfl
theorem bv_get {bs : List UInt8} {j : Nat} {c : UInt8} (h : bs[j]? = some c) : (bv bs)[j]? = some (.int .u8 c.toNat) := by simp [bv, h]
abbrev Bys (A : Asn) (ao : Option Addr) (bs : List UInt8) : Prop := Rd A ao (bv bs)
theorem addr_add (b off k : Nat) : (⟨b, off, none⟩ : Addr).add k = ⟨b, off + k, none⟩ := by unfold Addr.add; split <;> simp_all
theorem elem_sl {P : Program} {T E sz : Nat} [h : TSl P T E sz] : P.underlying T = some (.slice (P.elem T)) ∧ P.elem T = E := by
  have := h.out; simp [Program.elem, this]
theorem elem_ar {P : Program} {T m E sz : Nat} [h : TAr P T m E sz] : P.underlying T = some (.array (P.arrayLen T) (P.elem T)) ∧ P.elem T = E ∧ P.arrayLen T = m := by
  have := h.out; simp [Program.elem, Program.arrayLen, this]
section
variable {P : Program} {ops : Array Oper} {Q : Exit → Act → World → Prop} {rest : List Oper} {n d ty : Nat} {pos : String} {af : Array Edge} {ρ : Env} {ds : List Deferred} {w w' : World} {g : Gh} {L : List Asn}
theorem yia {x y : Operand} {T E sz b off l c j : Nat} {k : IntKind} {i : Int} [TSl P T E sz] (hx : ev n ρ x = some (.slice (some ⟨b, off, none⟩) l c)) (hy : ev n ρ y = some (.int k i)) (hi : i = (j : Nat)) (hj : j < l) (w : World) :
    (execOp (mk n ρ ds).eval ⟨some d, .indexAddr T x y, ty, pos, af, none⟩).run P w = .ok (.value (.pointer (some ⟨b, off + j * sz, none⟩))) w := by
  subst hi
  obtain ⟨h1, h2⟩ := elem_sl (P := P) (T := T) (E := E) (sz := sz)
  simp only [execOp, mk_eval hx, mk_eval hy, Sem.run_bind, run_indexAt_slice w T _ l c k _ h1, h2]
  rw [if_pos (by omega)]
  simp [TSl.size (P := P) (T := T), addr_add]
theorem xia {x y : Operand} {T E sz b off l c j : Nat} {k : IntKind} {i : Int} [TSl P T E sz] (hx : ev n ρ x = some (.slice (some ⟨b, off, none⟩) l c)) (hy : ev n ρ y = some (.int k i)) (hi : i = (j : Nat)) (hj : j < l)
    (h : wpList P ops Q rest (mk n (upd ρ d (.pointer (some ⟨b, off + j * sz, none⟩))) ds) w) : wpList P ops Q (⟨some d, .indexAddr T x y, ty, pos, af, none⟩ :: rest) (mk n ρ ds) w :=
  st_val (yia hx hy hi hj w) h
theorem yi1 {x y : Operand} {T E b off l c j : Nat} {k : IntKind} {i : Int} [TSl P T E 1] (hx : ev n ρ x = some (.slice (some ⟨b, off, none⟩) l c)) (hy : ev n ρ y = some (.int k i)) (hi : i = (j : Nat)) (hj : j < l) (w : World) :
    (execOp (mk n ρ ds).eval ⟨some d, .indexAddr T x y, ty, pos, af, none⟩).run P w = .ok (.value (.pointer (some ⟨b, off + j, none⟩))) w := by
  rw [yia hx hy hi hj w, Nat.mul_one]
theorem xi1 {x y : Operand} {T E b off l c j : Nat} {k : IntKind} {i : Int} [TSl P T E 1] (hx : ev n ρ x = some (.slice (some ⟨b, off, none⟩) l c)) (hy : ev n ρ y = some (.int k i)) (hi : i = (j : Nat)) (hj : j < l)
    (h : wpList P ops Q rest (mk n (upd ρ d (.pointer (some ⟨b, off + j, none⟩))) ds) w) : wpList P ops Q (⟨some d, .indexAddr T x y, ty, pos, af, none⟩ :: rest) (mk n ρ ds) w :=
  st_val (yi1 hx hy hi hj w) h
theorem yaa {x y : Operand} {T E m b off j : Nat} {k : IntKind} {i : Int} [TAr P T m E 1] (hx : ev n ρ x = some (.pointer (some ⟨b, off, none⟩))) (hy : ev n ρ y = some (.int k i)) (hi : i = (j : Nat)) (hj : j < m) (w : World) :
    (execOp (mk n ρ ds).eval ⟨some d, .indexAddr T x y, ty, pos, af, none⟩).run P w = .ok (.value (.pointer (some ⟨b, off + j, none⟩))) w := by
  subst hi
  obtain ⟨h1, h2, h3⟩ := elem_ar (P := P) (T := T) (m := m) (E := E) (sz := 1)
  simp only [execOp, mk_eval hx, mk_eval hy, Sem.run_bind, run_indexAt_array w T _ k _ h1, h2, h3]
  rw [if_pos (by omega)]
  simp [TAr.size (P := P) (T := T), addr_add]
theorem xaa {x y : Operand} {T E m b off j : Nat} {k : IntKind} {i : Int} [TAr P T m E 1] (hx : ev n ρ x = some (.pointer (some ⟨b, off, none⟩))) (hy : ev n ρ y = some (.int k i)) (hi : i = (j : Nat)) (hj : j < m)
    (h : wpList P ops Q rest (mk n (upd ρ d (.pointer (some ⟨b, off + j, none⟩))) ds) w) : wpList P ops Q (⟨some d, .indexAddr T x y, ty, pos, af, none⟩ :: rest) (mk n ρ ds) w :=
  st_val (yaa hx hy hi hj w) h
theorem yix {x y : Operand} {T j : Nat} {k : IntKind} {i : Int} {s : ByteArray} {c : UInt8} [TStr P T] (hx : ev n ρ x = some (.string s)) (hy : ev n ρ y = some (.int k i)) (hi : i = (j : Nat)) (hj : s.data.toList[j]? = some c) (w : World) :
    (execOp (mk n ρ ds).eval ⟨some d, .index T x y, ty, pos, af, none⟩).run P w = .ok (.value (.int .u8 c.toNat)) w := by
  subst hi
  have hl : j < s.size := by
    have := (List.getElem?_eq_some_iff.1 hj).1
    simpa using this
  have hc : s[j]? = some c := by
    rw [getElem?_pos s j hl]
    have := (List.getElem?_eq_some_iff.1 hj).2
    congr 1
  simp [execOp, mk_eval hx, mk_eval hy, Instr.index, asIntOf, run_underlying (TStr.out (P := P) (T := T)), hc]
theorem xix {x y : Operand} {T j : Nat} {k : IntKind} {i : Int} {s : ByteArray} {c : UInt8} [TStr P T] (hx : ev n ρ x = some (.string s)) (hy : ev n ρ y = some (.int k i)) (hi : i = (j : Nat)) (hj : s.data.toList[j]? = some c)
    (h : wpList P ops Q rest (mk n (upd ρ d (.int .u8 c.toNat)) ds) w) : wpList P ops Q (⟨some d, .index T x y, ty, pos, af, none⟩ :: rest) (mk n ρ ds) w :=
  st_val (yix hx hy hi hj w) h
def subA (ao : Option Addr) (cap l sz : Nat) : Option Addr := if cap = l then ao else ao.map (·.add (l * sz))
theorem Rd.sub {A : Asn} {ao : Option Addr} {cells : List Value} {cap nn sz : Nat} (hr : Rd A ao cells) (hl : cells.length = nn * sz) (hc : nn ≤ cap) (l h : Nat) (hh : h ≤ nn) : Rd A (subA ao cap l sz) ((cells.drop (l * sz)).take ((h - l) * sz)) := by
  unfold subA
  cases ao with
  | none =>
    cases hr
    split <;> simp [Rd]
  | some a =>
    obtain ⟨b, off, s⟩ := a
    obtain ⟨h1, h2⟩ := hr
    simp at h1; subst h1
    split
    · rename_i e
      have : h - l = 0 := by omega
      rw [this]; simp only [Nat.zero_mul, List.take_zero]
      exact ⟨rfl, Cells.nil⟩
    · simp only [Option.map_some, addr_add]
      exact ⟨rfl, h2.sub _ _⟩
theorem sliced_eq (ao : Option Addr) (l h m sz : Nat) : Go.sliced ao l h m sz = .slice (subA ao m l sz) (h - l) (m - l) := rfl
theorem ysl2 {x y z : Operand} {T E sz nn cap l h : Nat} {k k' : IntKind} {li hi : Int} {ao : Option Addr} [TSl P T E sz] (hx : ev n ρ x = some (.slice ao nn cap)) (hy : ev n ρ y = some (.int k li)) (hz : ev n ρ z = some (.int k' hi)) (el : li = (l : Nat)) (eh : hi = (h : Nat)) (h1 : l ≤ h) (h2 : h ≤ cap) (w : World) :
    (execOp (mk n ρ ds).eval ⟨some d, .slice T x (some y) (some z) none, ty, pos, af, none⟩).run P w = .ok (.value (.slice (subA ao cap l sz) (h - l) (cap - l))) w := by
  subst el eh
  obtain ⟨e1, e2⟩ := elem_sl (P := P) (T := T) (E := E) (sz := sz)
  simp only [execOp, mk_eval hx, Option.map_some, Option.map_none, mk_eval hy, mk_eval hz, Sem.run_bind, run_sliceAt_slice w T _ _ _ _ e1, run_slice_lh w T ao nn cap e1 k k' _ _ (Int.natCast_nonneg l) (Int.ofNat_le.2 h1) (Int.ofNat_le.2 h2), e2]
  simp [TSl.size (P := P) (T := T), sliced_eq]
theorem xsl2 {x y z : Operand} {T E sz nn cap l h : Nat} {k k' : IntKind} {li hi : Int} {ao : Option Addr} [TSl P T E sz] (hx : ev n ρ x = some (.slice ao nn cap)) (hy : ev n ρ y = some (.int k li)) (hz : ev n ρ z = some (.int k' hi)) (el : li = (l : Nat)) (eh : hi = (h : Nat)) (h1 : l ≤ h) (h2 : h ≤ cap)
    (hc : wpList P ops Q rest (mk n (upd ρ d (.slice (subA ao cap l sz) (h - l) (cap - l))) ds) w) : wpList P ops Q (⟨some d, .slice T x (some y) (some z) none, ty, pos, af, none⟩ :: rest) (mk n ρ ds) w :=
  st_val (ysl2 hx hy hz el eh h1 h2 w) hc
theorem ysl1 {x y : Operand} {T E sz nn cap l : Nat} {k : IntKind} {li : Int} {ao : Option Addr} [TSl P T E sz] (hx : ev n ρ x = some (.slice ao nn cap)) (hy : ev n ρ y = some (.int k li)) (el : li = (l : Nat)) (h1 : l ≤ nn) (w : World) :
    (execOp (mk n ρ ds).eval ⟨some d, .slice T x (some y) none none, ty, pos, af, none⟩).run P w = .ok (.value (.slice (subA ao cap l sz) (nn - l) (cap - l))) w := by
  subst el
  obtain ⟨e1, e2⟩ := elem_sl (P := P) (T := T) (E := E) (sz := sz)
  simp only [execOp, mk_eval hx, Option.map_some, Option.map_none, mk_eval hy, Sem.run_bind, run_sliceAt_slice w T _ _ _ _ e1, run_slice_l w T ao nn cap e1 k _ (Int.natCast_nonneg l) (Int.ofNat_le.2 h1), e2]
  simp [TSl.size (P := P) (T := T), sliced_eq]
theorem xsl1 {x y : Operand} {T E sz nn cap l : Nat} {k : IntKind} {li : Int} {ao : Option Addr} [TSl P T E sz] (hx : ev n ρ x = some (.slice ao nn cap)) (hy : ev n ρ y = some (.int k li)) (el : li = (l : Nat)) (h1 : l ≤ nn)
    (hc : wpList P ops Q rest (mk n (upd ρ d (.slice (subA ao cap l sz) (nn - l) (cap - l))) ds) w) : wpList P ops Q (⟨some d, .slice T x (some y) none none, ty, pos, af, none⟩ :: rest) (mk n ρ ds) w :=
  st_val (ysl1 hx hy el h1 w) hc
theorem subA_zero (ao : Option Addr) (cap sz : Nat) : subA ao cap 0 sz = ao := by
  unfold subA; split
  · rfl
  · cases ao with
    | none => rfl
    | some a => simp [Addr.add]
theorem ysl0 {x z : Operand} {T E sz nn cap h : Nat} {k' : IntKind} {hi : Int} {ao : Option Addr} [TSl P T E sz] (hx : ev n ρ x = some (.slice ao nn cap)) (hz : ev n ρ z = some (.int k' hi)) (eh : hi = (h : Nat)) (h2 : h ≤ cap) (w : World) :
    (execOp (mk n ρ ds).eval ⟨some d, .slice T x none (some z) none, ty, pos, af, none⟩).run P w = .ok (.value (.slice ao h cap)) w := by
  subst eh
  obtain ⟨e1, e2⟩ := elem_sl (P := P) (T := T) (E := E) (sz := sz)
  simp only [execOp, mk_eval hx, Option.map_some, Option.map_none, mk_eval hz, Sem.run_bind, run_sliceAt_slice w T _ _ _ _ e1, run_slice_h w T ao nn cap e1 k' _ (Int.natCast_nonneg h) (Int.ofNat_le.2 h2), e2]
  simp [TSl.size (P := P) (T := T), sliced_eq, subA_zero]
theorem xsl0 {x z : Operand} {T E sz nn cap h : Nat} {k' : IntKind} {hi : Int} {ao : Option Addr} [TSl P T E sz] (hx : ev n ρ x = some (.slice ao nn cap)) (hz : ev n ρ z = some (.int k' hi)) (eh : hi = (h : Nat)) (h2 : h ≤ cap)
    (hc : wpList P ops Q rest (mk n (upd ρ d (.slice ao h cap)) ds) w) : wpList P ops Q (⟨some d, .slice T x none (some z) none, ty, pos, af, none⟩ :: rest) (mk n ρ ds) w :=
  st_val (ysl0 hx hz eh h2 w) hc
theorem ysla {x : Operand} {T m E sz b off : Nat} [TAr P T m E sz] (hx : ev n ρ x = some (.pointer (some ⟨b, off, none⟩))) (w : World) :
    (execOp (mk n ρ ds).eval ⟨some d, .slice T x none none none, ty, pos, af, none⟩).run P w = .ok (.value (.slice (some ⟨b, off, none⟩) m m)) w := by
  simp only [execOp, mk_eval hx, Option.map_none, Instr.sliceAt]
  simp [run_underlying (TAr.out (P := P) (T := T)), Instr.sureAddr, asAddr, Instr.sliceBounds, TAr.size (P := P) (T := T), Addr.add]
theorem xsla {x : Operand} {T m E sz b off : Nat} [TAr P T m E sz] (hx : ev n ρ x = some (.pointer (some ⟨b, off, none⟩)))
    (hc : wpList P ops Q rest (mk n (upd ρ d (.slice (some ⟨b, off, none⟩) m m)) ds) w) : wpList P ops Q (⟨some d, .slice T x none none none, ty, pos, af, none⟩ :: rest) (mk n ρ ds) w :=
  st_val (ysla hx w) hc
theorem yslah {x z : Operand} {T m E sz b off h : Nat} {k : IntKind} {hi : Int} [TAr P T m E sz] (hx : ev n ρ x = some (.pointer (some ⟨b, off, none⟩))) (hz : ev n ρ z = some (.int k hi)) (eh : hi = (h : Nat)) (h2 : h ≤ m) (w : World) :
    (execOp (mk n ρ ds).eval ⟨some d, .slice T x none (some z) none, ty, pos, af, none⟩).run P w = .ok (.value (.slice (some ⟨b, off, none⟩) h m)) w := by
  subst eh
  simp only [execOp, mk_eval hx, Option.map_none, Option.map_some, mk_eval hz, Instr.sliceAt]
  have hb := run_sliceBound (P := P) w k (h : Int) m .sliceAlen (Int.natCast_nonneg h) (Int.ofNat_le.2 h2)
  simp [run_underlying (TAr.out (P := P) (T := T)), Instr.sureAddr, asAddr, Instr.sliceBounds, hb, TAr.size (P := P) (T := T), Addr.add]
theorem xslah {x z : Operand} {T m E sz b off h : Nat} {k : IntKind} {hi : Int} [TAr P T m E sz] (hx : ev n ρ x = some (.pointer (some ⟨b, off, none⟩))) (hz : ev n ρ z = some (.int k hi)) (eh : hi = (h : Nat)) (h2 : h ≤ m)
    (hc : wpList P ops Q rest (mk n (upd ρ d (.slice (some ⟨b, off, none⟩) h m)) ds) w) : wpList P ops Q (⟨some d, .slice T x none (some z) none, ty, pos, af, none⟩ :: rest) (mk n ρ ds) w :=
  st_val (yslah hx hz eh h2 w) hc
theorem yss {x : Operand} {lo hi : Option Operand} {T l h : Nat} {s : ByteArray} [TStr P T] (hx : ev n ρ x = some (.string s))
    (hl : match lo with | some y => ∃ k, ev n ρ y = some (.int k (l : Nat)) | none => l = 0) (hh : match hi with | some y => ∃ k, ev n ρ y = some (.int k (h : Nat)) | none => h = s.size) (h1 : l ≤ h) (h2 : h ≤ s.size) (w : World) :
    (execOp (mk n ρ ds).eval ⟨some d, .slice T x lo hi none, ty, pos, af, none⟩).run P w = .ok (.value (.string (s.extract l h))) w := by
  have ht := TStr.out (P := P) (T := T)
  have b1 : ∀ k c, (Instr.sliceBound (.int k (l : Nat)) h c).run P w = .ok l w := fun k c => by
    have := run_sliceBound (P := P) w k (l : Int) h c (Int.natCast_nonneg l) (Int.ofNat_le.2 h1); simpa using this
  have b2 : ∀ k c, (Instr.sliceBound (.int k (h : Nat)) s.size c).run P w = .ok h w := fun k c => by
    have := run_sliceBound (P := P) w k (h : Int) s.size c (Int.natCast_nonneg h) (Int.ofNat_le.2 h2); simpa using this
  cases lo with
  | none =>
    subst hl
    cases hi with
    | none => subst hh; simp [execOp, mk_eval hx, Instr.sliceAt, run_underlying ht, Instr.slice, Instr.sliceBounds]
    | some y => obtain ⟨k, hk⟩ := hh; simp [execOp, mk_eval hx, mk_eval hk, Instr.sliceAt, run_underlying ht, Instr.slice, Instr.sliceBounds, b2]
  | some z =>
    obtain ⟨k', hk'⟩ := hl
    cases hi with
    | none => subst hh; simp [execOp, mk_eval hx, mk_eval hk', Instr.sliceAt, run_underlying ht, Instr.slice, Instr.sliceBounds, b1]
    | some y => obtain ⟨k, hk⟩ := hh; simp [execOp, mk_eval hx, mk_eval hk, mk_eval hk', Instr.sliceAt, run_underlying ht, Instr.slice, Instr.sliceBounds, b2, b1]
theorem xss {x : Operand} {lo hi : Option Operand} {T : Nat} {s : ByteArray} [TStr P T] (l h : Nat) (hx : ev n ρ x = some (.string s))
    (hl : match lo with | some y => ∃ k, ev n ρ y = some (.int k (l : Nat)) | none => l = 0) (hh : match hi with | some y => ∃ k, ev n ρ y = some (.int k (h : Nat)) | none => h = s.size) (h1 : l ≤ h) (h2 : h ≤ s.size)
    (hc : wpList P ops Q rest (mk n (upd ρ d (.string (s.extract l h))) ds) w) : wpList P ops Q (⟨some d, .slice T x lo hi none, ty, pos, af, none⟩ :: rest) (mk n ρ ds) w :=
  st_val (yss hx hl hh h1 h2 w) hc
end
end Go.Proofs.YtegllbmkkfnajaaGreatDoor
end
section
namespace Go.Proofs.YtegllbmkkfnajaaGreatDoor
open Go Go.RowKit
section
variable {P : Program} {ops : Array Oper} {Q : Exit → Act → World → Prop} {rest : List Oper} {n d ty : Nat} {pos : String} {af : Array Edge} {ρ : Env} {ds : List Deferred} {w w' : World} {g : Gh} {L M : List Asn}
theorem run_bi_append {T U : Nat} {x y : Operand} {v u r : Value} {dst : Option Tmp} (hx : ev n ρ x = some v) (hy : ev n ρ y = some u) (h : (Builtin.append_ #[T, U] ty #[v, u]).run P w = .ok r w') :
    (execOp (mk n ρ ds).eval ⟨dst, .call { callee := .builtin .append, args := #[x, y], argTypes := #[T, U] }, ty, pos, af, none⟩).run P w = .ok (.value r) w' := by
  simp [execOp, resolve, invoke, builtin, mk_eval hx, mk_eval hy, h]
theorem xap {T U E sz by_ nn m cap : Nat} {z : List Value} {x y : Operand} {ao : Option Addr} {cells news : List Value} {u : Value} [TSl P T E sz] [TEl P E sz by_ z] [TNi P U] (k : Nat) (H : St g w L) (hk : takeAt k L = some (own ao cap E sz nn cells, M))
    (hx : ev n ρ x = some (.slice ao nn cap)) (hy : ev n ρ y = some u) (hs : Src P w sz u m news) (h1 : ∀ v ∈ news, v.oneCell' = true) (hb : (nn + m) * by_ ≤ 140737488355328) (hm : nn + m ≤ maxLen)
    (h : ∀ ao' cap' w', St g w' (own ao' cap' E sz (nn + m) (cells ++ news) :: M) → (ao' = none → ao = none ∧ m = 0) → wpList P ops Q rest (mk n (upd ρ d (.slice ao' (nn + m) cap')) ds) w') :
    wpList P ops Q (⟨some d, .call { callee := .builtin .append, args := #[x, y], argTypes := #[T, U] }, ty, pos, af, none⟩ :: rest) (mk n ρ ds) w := by
  obtain ⟨ao', cap', w', hr, hS, hn⟩ := run_append (P := P) (T := T) (U := U) (ty := ty) (H.front k hk) hs h1 hb hm
  exact st_val (run_bi_append hx hy hr) (h ao' cap' w' hS hn)
theorem src_at {sz m c : Nat} {so : Option Addr} {news : List Value} {A : Asn} (j : Nat) (H : St g w L) (hj : nthA L j = some A) (hr : Rd A so news) (hl : news.length = m * sz) : Src P w sz (.slice so m c) m news := by
  obtain ⟨F, hF⟩ := H.nth hj
  exact src_rd hF hr hl
def catV : List Value → Option (List Value)
  | [] => some []
  | v :: l => match catV l with
    | some m => match v with
      | .agg c => some (c.toList ++ m)
      | v => some (v :: m)
    | none => none
theorem catV_cons {v : Value} {l c : List Value} (h : catV (v :: l) = some c) : ∃ m, catV l = some m ∧ c = v.cells.toList ++ m := by
  simp only [catV] at h
  cases hm : catV l with
  | none => rw [hm] at h; cases h
  | some m =>
    rw [hm] at h
    refine ⟨m, rfl, ?_⟩
    cases v <;> simp at h <;> subst h <;> simp [Value.cells]
def inOrder : Nat → List (Nat × Operand) → Option (List Operand)
  | _, [] => some []
  | k, (i, x) :: l => bif Nat.beq i k then match inOrder (k + 1) l with | some m => some (x :: m) | none => none else none
theorem foldl_place : ∀ (l : List Value) (cs : Array Value) (o : Nat) (k : Nat), o + k + l.length ≤ cs.size →
    ((l.zipIdx k).foldl (fun cs (x : Value × Nat) => cs.setIfInBounds (o + x.2) x.1) cs).toList = cs.toList.take (o + k) ++ l ++ cs.toList.drop (o + k + l.length)
  | [], cs, o, k, _ => by simp
  | v :: l, cs, o, k, h => by
    simp only [List.length_cons] at h
    simp only [List.zipIdx_cons, List.foldl_cons]
    rw [foldl_place l _ o (k + 1) (by simp; omega)]
    apply List.ext_getElem?
    intro j
    simp only [Array.toList_setIfInBounds, List.getElem?_append, List.length_append, List.length_take, List.length_set, Array.length_toList, List.getElem?_take, List.getElem?_drop, List.getElem?_set, List.length_cons]
    have e1 : min (o + (k + 1)) cs.size = o + k + 1 := by omega
    have e2 : min (o + k) cs.size = o + k := by omega
    rw [e1, e2]
    by_cases a1 : j < o + k
    · simp [a1, show j < o + k + 1 + l.length by omega, show j < o + k + 1 by omega, show j < o + k + (l.length + 1) by omega, show j < o + (k + 1) by omega, show ¬ o + k = j by omega]
    · by_cases a2 : j = o + k
      · subst a2
        simp [show o + k < o + k + 1 + l.length by omega, show o + k < o + k + 1 by omega, show o + k < o + k + (l.length + 1) by omega, show o + k < o + (k + 1) by omega, show o + k < cs.size by omega]
      · by_cases a3 : j < o + k + 1 + l.length
        · simp [a3, a1, show ¬ j < o + k + 1 by omega, show j < o + k + (l.length + 1) by omega]
          rw [show j - (o + k) = (j - (o + k + 1)) + 1 by omega]
          simp
        · simp [a3, show ¬ j < o + k + (l.length + 1) by omega]
          rw [show o + (k + 1) + l.length + (j - (o + k + 1 + l.length)) = o + k + (l.length + 1) + (j - (o + k + (l.length + 1))) by omega]
          rw [if_neg (by omega)]
theorem fill_inOrder {sz : Nat} : ∀ (parts : List (Nat × Operand)) (xs : List Operand) (vs c : List Value) (k : Nat) (cs : Array Value), inOrder k parts = some xs → evl n ρ xs = some vs → catV vs = some c →
    (∀ v ∈ vs, v.cells.size = sz) → cs.size = k * sz + c.length →
    Instr.fill (fun i => some (i * sz, sz)) cs (parts.map fun p => (p.1, (mk n ρ ds).eval p.2)) = some (cs.toList.take (k * sz) ++ c).toArray
  | [], xs, vs, c, k, cs, h1, h2, h3, _, h5 => by
    simp [inOrder] at h1; subst h1
    simp [evl] at h2; subst h2
    simp [catV] at h3; subst h3
    simp only [List.length_nil, Nat.add_zero] at h5
    simp only [List.map_nil, Instr.fill, List.append_nil]
    rw [List.take_of_length_le (by simp; omega)]
  | (i, x) :: l, xs, vs, c, k, cs, h1, h2, h3, h4, h5 => by
    simp only [inOrder] at h1
    cases hb : Nat.beq i k with
    | false => rw [hb] at h1; cases h1
    | true =>
      have e := Nat.eq_of_beq_eq_true hb
      subst e
      rw [hb] at h1
      simp only [cond_true] at h1
      cases hm : inOrder (i + 1) l with
      | none => rw [hm] at h1; cases h1
      | some ys =>
        rw [hm] at h1; simp at h1; subst h1
        simp only [evl] at h2
        cases hx : ev n ρ x with
        | none => rw [hx] at h2; cases h2
        | some v =>
          rw [hx] at h2
          simp only at h2
          cases hy : evl n ρ ys with
          | none => rw [hy] at h2; cases h2
          | some us =>
            rw [hy] at h2; simp at h2; subst h2
            obtain ⟨m, hm2, rfl⟩ := catV_cons h3
            have hv : v.cells.size = sz := h4 v (by simp)
            have hv' : v.cells.toList.length = sz := by simpa using hv
            have hsz : (i + 1) * sz = i * sz + sz := by rw [Nat.add_mul, Nat.one_mul]
            simp only [List.length_append, hv'] at h5
            simp only [List.map_cons, Instr.fill, mk_eval hx, hv]
            rw [if_neg (by simp; omega)]
            have hf : (v.cells.zipIdx.foldl (fun cs (x : Value × Nat) => cs.setIfInBounds (i * sz + x.2) x.1) cs).toList = cs.toList.take (i * sz) ++ v.cells.toList ++ cs.toList.drop (i * sz + sz) := by
              have := foldl_place v.cells.toList cs (i * sz) 0 (by rw [hv']; omega)
              rw [hv'] at this
              simp only [Nat.add_zero] at this
              rw [← this, ← Array.foldl_toList]
              simp
            have hsize : (v.cells.zipIdx.foldl (fun cs (x : Value × Nat) => cs.setIfInBounds (i * sz + x.2) x.1) cs).size = cs.size := by
              have := congrArg List.length hf
              simp only [Array.length_toList, List.length_append, List.length_take, List.length_drop, hv'] at this
              omega
            have ih := fill_inOrder l ys us m (i + 1) (v.cells.zipIdx.foldl (fun cs (x : Value × Nat) => cs.setIfInBounds (i * sz + x.2) x.1) cs) hm hy hm2 (fun u hu => h4 u (by simp [hu])) (by rw [hsize, hsz]; omega)
            rw [ih]
            congr 2
            rw [hf, hsz, ← List.append_assoc]
            congr 1
            rw [List.take_append_of_le_length (by simp [hv']; omega)]
            rw [List.take_of_length_le (by simp [hv']; omega)]
theorem catV_len {sz : Nat} : ∀ {vs c : List Value}, catV vs = some c → (∀ v ∈ vs, v.cells.size = sz) → c.length = vs.length * sz
  | [], c, h, _ => by simp [catV] at h; subst h; simp
  | v :: l, c, h, h4 => by
    obtain ⟨m, hm, rfl⟩ := catV_cons h
    have := catV_len hm (fun u hu => h4 u (by simp [hu]))
    have hv := h4 v (by simp)
    simp [hv, this, Nat.add_mul, Nat.add_comm]
theorem inOrder_len : ∀ {k : Nat} {p : List (Nat × Operand)} {xs : List Operand}, inOrder k p = some xs → xs.length = p.length
  | _, [], xs, h => by simp [inOrder] at h; subst h; rfl
  | k, (i, x) :: l, xs, h => by
    simp only [inOrder] at h
    cases hb : Nat.beq i k with
    | false => rw [hb] at h; cases h
    | true =>
      rw [hb] at h; simp only [cond_true] at h
      cases hm : inOrder (k + 1) l with
      | none => rw [hm] at h; cases h
      | some ys => rw [hm] at h; simp at h; subst h; simp [inOrder_len hm]
theorem evl_len : ∀ {xs : List Operand} {vs : List Value}, evl n ρ xs = some vs → vs.length = xs.length
  | [], vs, h => by simp [evl] at h; subst h; rfl
  | x :: l, vs, h => by
    simp only [evl] at h
    split at h
    · split at h
      · rename_i us hu; simp at h; subst h; simp [evl_len hu]
      · cases h
    · cases h
theorem xbs {T E sz by_ m : Nat} {z : List Value} {parts : List (Nat × Operand)} {xs : List Operand} {vs c : List Value} [TSl P T E sz] [TEl P E sz by_ z] (H : St g w L) (hp : inOrder 0 parts = some xs) (hx : evl n ρ xs = some vs) (hc : catV vs = some c) (hz : ∀ v ∈ vs, v.cells.size = sz)
    (hm : Nat.beq parts.length m = true) (hs : Nat.ble (m * sz) 16777216 = true)
    (h : ∀ b w', St g w' (own (some ⟨b, 0, none⟩) m E sz m c :: L) → wpList P ops Q rest (mk n (upd ρ d (.slice (some ⟨b, 0, none⟩) m m)) ds) w') :
    wpList P ops Q (⟨some d, .buildSlice T m parts.toArray, ty, pos, af, none⟩ :: rest) (mk n ρ ds) w := by
  have hm := Nat.eq_of_beq_eq_true hm
  have hs := Nat.le_of_ble_eq_true hs
  obtain ⟨i, v, hi, hsz, hby, hzz, hv⟩ := TEl.out (P := P) (E := E)
  have hzl := TEl.len (P := P) (E := E)
  have hpos := TEl.pos (P := P) (E := E)
  have hcl : c.length = m * sz := by rw [catV_len hc hz, evl_len hx, inOrder_len hp, hm]
  have hfill : ∀ cs : Array Value, cs.size = m * sz → Instr.fill (fun i => some (i * sz, sz)) cs (parts.map fun p => (p.1, (mk n ρ ds).eval p.2)) = some c.toArray := by
    intro cs hcs
    have := fill_inOrder (ds := ds) parts xs vs c 0 cs hp hx hc hz (by rw [hcs, hcl]; omega)
    simpa using this
  subst hsz
  refine st_val (v := .slice (some ⟨w.heap.size, 0, none⟩) m m) (w' := w.alloc (.cells c.toArray E)) ?_ (h _ _ ?_)
  · simp only [execOp, Instr.buildSlice]
    have hle : ¬ (m * i.size > 2 ^ 24) := by omega
    have hf : ∀ zs : Array Value, Instr.fill (fun j => some (j * i.size, i.size)) ((Array.range (m * i.size)).map (fun x => zs[x % zs.size]!)) (parts.map fun p => (p.1, (mk n ρ ds).eval p.2)) = some c.toArray := fun zs => hfill _ (by simp)
    by_cases h0 : m * i.size = 0
    · simp [run_underlying (TSl.out (P := P) (T := T)), sizeOf, typeInfo, zeroValue, hi, hzz, h0, newRow]
      have := hfill (Array.map (fun _ => default) (Array.range 0)) (by simp [h0])
      rw [this]; simp
    · have hf' := hf v.cells
      simp [run_underlying (TSl.out (P := P) (T := T)), sizeOf, typeInfo, zeroValue, hi, hzz, h0, newRow, Nat.not_lt.2 hs]
      rw [hf']; simp
  · have H1 := (H.ownNil E i.size)
    exact St.renew H1 ⟨hcl, Nat.le_refl _, .inr ⟨_, 0, _, (0, 0), rfl, fun _ => Iff.rfl, heap_alloc_new _ _, .inl (Nat.le_refl _), by simp [hcl], by simp; exact List.take_of_length_le (Nat.le_of_eq hcl)⟩⟩
theorem St.keeps {S R : List Asn} (ks : List Nat) (H : St g w L) (hk : Go.Proofs.YtegllbmkkfnajaaGreatDoor.pick ks L = some (S, R)) : St g w S := by
  have H1 := H.pick ks hk
  have key : ∀ (R : List Asn), St g w (R ++ S) → St g w S := by
    intro R
    induction R with
    | nil => exact id
    | cons A R ih => exact fun h => ih h.drop
  exact key R (H1.perm (List.perm_append_comm))
def repV (z : List Value) : Nat → List Value
  | 0 => []
  | k + 1 => z ++ repV z k
theorem repV_length (z : List Value) (k : Nat) : (repV z k).length = k * z.length := by
  induction k with
  | zero => simp [repV]
  | succ k ih => simp [repV, ih, Nat.add_mul, Nat.add_comm]
theorem repV_get (z : List Value) : ∀ (k j : Nat), j < k * z.length → (repV z k)[j]? = z[j % z.length]?
  | 0, j, h => by simp at h
  | k + 1, j, h => by
    simp only [repV]
    by_cases hj : j < z.length
    · rw [List.getElem?_append_left hj, Nat.mod_eq_of_lt hj]
    · rw [List.getElem?_append_right (by omega), repV_get z k (j - z.length) (by rw [Nat.add_mul] at h; omega)]
      congr 1
      rw [Nat.mod_eq_sub_mod (by omega : z.length ≤ j)]
theorem made_eq (z : List Value) (hz : 0 < z.length) (k : Nat) : ((Array.range (k * z.length)).map (fun x => z.toArray[x % z.length]!)).toList = repV z k := by
  apply List.ext_getElem?
  intro j
  by_cases hj : j < k * z.length
  · rw [repV_get z k j hj]
    have hm : j % z.length < z.length := Nat.mod_lt _ hz
    simp [hj, hm]
  · rw [List.getElem?_eq_none (by simp; omega), List.getElem?_eq_none (by rw [repV_length]; omega)]
theorem xmk {T E sz by_ l c : Nat} {z : List Value} {x y : Operand} {k k' : IntKind} {li ci : Int} [TSl P T E sz] [TEl P E sz by_ z] (H : St g w L) (hx : ev n ρ x = some (.int k li)) (hy : ev n ρ y = some (.int k' ci)) (el : li = (l : Nat)) (ec : ci = (c : Nat)) (h1 : l ≤ c) (hb : c * by_ ≤ 281474976710656) (hm : c ≤ maxLen)
    (h : ∀ b w', St g w' (own (some ⟨b, 0, none⟩) c E sz l (repV z l) :: L) → wpList P ops Q rest (mk n (upd ρ d (.slice (some ⟨b, 0, none⟩) l c)) ds) w') :
    wpList P ops Q (⟨some d, .makeSlice T x y, ty, pos, af, none⟩ :: rest) (mk n ρ ds) w := by
  obtain ⟨i, v, hi, hsz, hby, hzz, hv⟩ := TEl.out (P := P) (E := E)
  have hzl := TEl.len (P := P) (E := E)
  have hpos := TEl.pos (P := P) (E := E)
  subst el ec hby
  have w1 : IntKind.i64.wrap (l : Int) = l := wi64 (by simp only [maxLen] at hm; omega)
  have w2 : IntKind.i64.wrap (c : Int) = c := wi64 (by simp only [maxLen] at hm; omega)
  have hcells : ((Array.range (c * sz)).map (fun x => v.cells[x % v.cells.size]!)).toList = repV z c := by
    rw [hv, ← hzl]
    have := made_eq z (by omega) c
    simpa using this
  refine st_val (v := .slice (some ⟨w.heap.size, 0, none⟩) l c) (w' := w.alloc (.cells (repV z c).toArray E)) ?_ (h _ _ ?_)
  · have hb2 : (i.bytes : Int) * (c : Int) ≤ 281474976710656 := by
      have h : ((i.bytes * c : Nat) : Int) ≤ 281474976710656 := by rw [Nat.mul_comm]; omega
      rwa [Int.natCast_mul] at h
    simp only [execOp, mk_eval hx, mk_eval hy]
    have h63 : (c : Int) ≤ 9223372036854775807 := by simp only [maxLen] at hm; omega
    have hr := run_make (P := P) w T E i v (TSl.out (P := P) (T := T)) hi hzz k k' l c (by omega) (by omega) hb2 h63
    simp only [Int.toNat_natCast] at hr
    have e : madeCells v.cells (c * i.size) = (repV z c).toArray := by
      apply Array.ext'; rw [hsz]; exact hcells
    rw [Sem.run_bind, hr, e]
    rfl
  · have H1 := (H.ownNil E sz)
    refine St.renew H1 ⟨by rw [repV_length, hzl], h1, .inr ⟨_, 0, _, (0, 0), rfl, fun _ => Iff.rfl, heap_alloc_new _ _, .inl (Nat.le_refl _), by simp [repV_length, hzl], ?_⟩⟩
    simp only [List.drop_zero]
    apply List.ext_getElem?
    intro j
    rw [List.getElem?_take]
    by_cases hj : j < l * sz
    · have : j < c * sz := Nat.lt_of_lt_of_le hj (Nat.mul_le_mul_right _ h1)
      rw [if_pos hj, repV_get _ _ _ (by rw [hzl]; exact this), repV_get _ _ _ (by rw [hzl]; exact hj)]
    · rw [if_neg hj, List.getElem?_eq_none (by rw [repV_length, hzl]; omega)]
class TSt (P : Program) (T : TypeId) (z : outParam (List Value)) (fs : outParam (List (Nat × Nat))) : Prop where
  zero : ∀ w, ∃ v, (zeroValue T).run P w = .ok v w ∧ v.cells = z.toArray
  fields : ∃ fa : Array Field, P.underlying T = some (.struct fa) ∧ ∀ w, (fa.mapM (fun f => do pure (f.offset, ← sizeOf f.type) : Field → Sem (Nat × Nat))).run P w = .ok fs.toArray w
def placeV : List Value → Nat → List Value → Option (List Value)
  | l, _, [] => some l
  | [], _, _ :: _ => none
  | u :: l, 0, v :: vs => match placeV l 0 vs with | some m => some (v :: m) | none => none
  | u :: l, k + 1, vs => match placeV l k vs with | some m => some (u :: m) | none => none
theorem placeV_eq : ∀ {l : List Value} {k : Nat} {vs m : List Value}, placeV l k vs = some m → m = l.take k ++ vs ++ l.drop (k + vs.length) ∧ (vs ≠ [] → k + vs.length ≤ l.length)
  | l, k, [], m, h => by
    have : placeV l k [] = some l := by cases l <;> cases k <;> rfl
    rw [this] at h; simp at h; subst h; simp
  | [], k, v :: vs, m, h => by cases k <;> simp [placeV] at h
  | u :: l, 0, v :: vs, m, h => by
    simp only [placeV] at h
    split at h
    · rename_i m' hm
      simp at h; subst h
      obtain ⟨e, hl⟩ := placeV_eq hm
      refine ⟨by rw [e]; simp, fun _ => ?_⟩
      by_cases hv : vs = []
      · subst hv; simp
      · have := hl hv; simp at this ⊢; omega
    · cases h
  | u :: l, k + 1, v :: vs, m, h => by
    simp only [placeV] at h
    split at h
    · rename_i m' hm
      simp at h; subst h
      obtain ⟨e, hl⟩ := placeV_eq hm
      have := hl (by simp)
      refine ⟨by rw [e]; simp only [List.length_cons, show k + 1 + (vs.length + 1) = (k + (vs.length + 1)) + 1 by omega, List.drop_succ_cons]; rfl, fun _ => by simp at this ⊢; omega⟩
    · cases h
def nthP : List (Nat × Nat) → Nat → Option (Nat × Nat)
  | [], _ => none
  | p :: _, 0 => some p
  | _ :: l, k + 1 => nthP l k
theorem nthP_eq : ∀ (l : List (Nat × Nat)) (k : Nat), nthP l k = l[k]?
  | [], k => by simp [nthP]
  | p :: l, 0 => by simp [nthP]
  | p :: l, k + 1 => by simp [nthP, nthP_eq l k]
def celV : Value → Option (List Value)
  | .agg c => some c.toList
  | v => some [v]
theorem celV_eq {v : Value} {c : List Value} (h : celV v = some c) : v.cells = c.toArray := by
  cases v <;> simp [celV] at h <;> subst h <;> simp [Value.cells]
def buildV (n : Nat) (ρ : Env) (fs : List (Nat × Nat)) : List Value → List (Nat × Operand) → Option (List Value)
  | cs, [] => some cs
  | cs, (i, x) :: l => match nthP fs i with
    | some (o, s) => match ev n ρ x with
      | some v => match celV v with
        | some c => match placeV cs o c with
          | some cs' => bif Nat.beq c.length s && Nat.ble (o + s) cs.length then buildV n ρ fs cs' l else none
          | none => none
        | none => none
      | none => none
    | none => none
theorem buildV_fill {fs : List (Nat × Nat)} : ∀ {parts : List (Nat × Operand)} {cs c : List Value}, buildV n ρ fs cs parts = some c → Instr.fill (fs.toArray[·]?) cs.toArray (parts.map fun p => (p.1, (mk n ρ ds).eval p.2)) = some c.toArray
  | [], cs, c, h => by simp [buildV] at h; subst h; rfl
  | (i, x) :: l, cs, c, h => by
    simp only [buildV] at h
    cases h1 : nthP fs i with
    | none => rw [h1] at h; cases h
    | some p =>
      obtain ⟨o, s⟩ := p
      rw [h1] at h; simp only at h
      cases h2 : ev n ρ x with
      | none => rw [h2] at h; cases h
      | some v =>
        rw [h2] at h; simp only at h
        cases h3 : celV v with
        | none => rw [h3] at h; cases h
        | some vc =>
          rw [h3] at h; simp only at h
          cases h4 : placeV cs o vc with
          | none => rw [h4] at h; cases h
          | some cs' =>
            rw [h4] at h; simp only at h
            cases h5 : (Nat.beq vc.length s && Nat.ble (o + s) cs.length) with
            | false => rw [h5] at h; cases h
            | true =>
              rw [h5] at h; simp only [cond_true] at h
              rw [Bool.and_eq_true] at h5
              have e1 := Nat.eq_of_beq_eq_true h5.1
              have e2 := Nat.le_of_ble_eq_true h5.2
              have ec := celV_eq h3
              obtain ⟨e4, _⟩ := placeV_eq h4
              have ih := buildV_fill h
              have hp : fs.toArray[i]? = some (o, s) := by rw [nthP_eq] at h1; simpa using h1
              simp only [List.map_cons, Instr.fill, hp, mk_eval h2, ec]
              rw [if_neg (by simp [e1]; omega)]
              rw [← ih]
              congr 1
              apply Array.ext'
              have := foldl_place vc cs.toArray o 0 (by simp; omega)
              simp only [Nat.add_zero] at this
              rw [e4]
              simpa using this
theorem ybu {T : Nat} {z c : List Value} {fs : List (Nat × Nat)} {parts : List (Nat × Operand)} [TSt P T z fs] (hb : buildV n ρ fs z parts = some c) (w : World) :
    (execOp (mk n ρ ds).eval ⟨some d, .build T parts.toArray, ty, pos, af, none⟩).run P w = .ok (.value (.agg c.toArray)) w := by
  obtain ⟨v, hv, hc⟩ := TSt.zero (P := P) (T := T) w
  obtain ⟨fa, hu, hf⟩ := TSt.fields (P := P) (T := T)
  have hfill := buildV_fill (ds := ds) hb
  simp only [execOp, Instr.build, Sem.run_bind, hv, Result.andThen_ok, run_underlying hu, hf]
  rw [hc]
  have e : (Array.map (fun x => (x.fst, (mk n ρ ds).eval x.snd)) parts.toArray).toList = parts.map fun p => (p.1, (mk n ρ ds).eval p.2) := by simp
  rw [e, hfill]
  simp
theorem xbu {T : Nat} {z c : List Value} {fs : List (Nat × Nat)} {parts : List (Nat × Operand)} [TSt P T z fs] (hb : buildV n ρ fs z parts = some c)
    (h : wpList P ops Q rest (mk n (upd ρ d (.agg c.toArray)) ds) w) : wpList P ops Q (⟨some d, .build T parts.toArray, ty, pos, af, none⟩ :: rest) (mk n ρ ds) w :=
  st_val (ybu hb w) h
end
end Go.Proofs.YtegllbmkkfnajaaGreatDoor
end
section
namespace Go.Proofs.YtegllbmkkfnajaaGreatDoor
open Go Go.RowKit
abbrev Mem := Nat → Option Obj
def imm (μ : Mem) : Asn where
  at_ w F := (∀ b, F b ↔ (μ b).isSome = true) ∧ ∀ b o, μ b = some o → w.heap[b]? = some o
  keep := fun ⟨h1, h2⟩ hk => ⟨h1, fun b o h => (hk b ((h1 b).2 (by rw [h]; rfl))).trans (h2 b o h)⟩
def Mem.le (μ ν : Mem) : Prop := ∀ b o, μ b = some o → ν b = some o
instance : LE Mem := ⟨Mem.le⟩
theorem Mem.rfl {μ : Mem} : μ ≤ μ := fun _ _ h => h
theorem Mem.le.trans {μ ν ξ : Mem} (h1 : μ ≤ ν) (h2 : ν ≤ ξ) : μ ≤ ξ := fun b o h => h2 b o (h1 b o h)
theorem imm_mono {μ ν : Mem} (h : μ ≤ ν) {w : World} {F : Nat → Prop} (hν : (imm ν).at_ w F) : ∃ F', (imm μ).at_ w F' :=
  ⟨fun b => (μ b).isSome = true, fun _ => Iff.rfl, fun b o hb => hν.2 b o (h b o hb)⟩
def Sees (B A : Asn) : Prop := ∀ w F, B.at_ w F → ∃ F', A.at_ w F'
theorem Sees.trans {A B C : Asn} (h1 : Sees A B) (h2 : Sees B C) : Sees A C := fun w F h => let ⟨F', h'⟩ := h1 w F h; h2 w F' h'
theorem Mem.le.sees {μ ν : Mem} (h : μ ≤ ν) : Sees (imm ν) (imm μ) := fun _ _ hν => imm_mono h hν
theorem Asn.cell.sees {A B : Asn} {a : Addr} {v : Value} (h : A.cell a v) (hs : Sees B A) : B.cell a v := fun w F hB => let ⟨F', hA⟩ := hs w F hB; h w F' hA
theorem Cells.sees {A B : Asn} {b off : Nat} {c : List Value} (h : Cells A b off c) (hs : Sees B A) : Cells B b off c := fun j v hv => (h j v hv).sees hs
theorem Rd.sees {A B : Asn} {ao : Option Addr} {c : List Value} (h : Rd A ao c) (hs : Sees B A) : Rd B ao c := by
  cases ao with
  | none => exact h
  | some a => exact ⟨h.1, h.2.sees hs⟩
theorem Rd.up {μ ν : Mem} {ao : Option Addr} {c : List Value} (h : Rd (imm μ) ao c) (hs : μ ≤ ν) : Rd (imm ν) ao c := h.sees hs.sees
theorem St.freeze {g : Gh} {w : World} {A : Asn} {μ : Mem} {L : List Asn} (H : St g w (A :: imm μ :: L)) : ∃ ν, μ ≤ ν ∧ Sees (imm ν) A ∧ St g w (imm ν :: L) := by
  obtain ⟨F, ⟨F1, F2, h1, ⟨F3, F4, ⟨h3, h3'⟩, h4, hd', hu'⟩, hd, hu⟩, hb, hf, he⟩ := H
  classical
  have hlt : ∀ b, F1 b → b < w.heap.size := fun b hb1 => hb b ((hu b).2 (.inl hb1))
  refine ⟨fun b => if F1 b then w.heap[b]? else μ b, ?_, ?_, ?_⟩
  · intro b o hbo
    have : ¬ F1 b := fun h => hd b h ((hu' b).2 (.inl ((h3 b).2 (by rw [hbo]; rfl))))
    simp only [this, if_false]; exact hbo
  · intro w' F' ⟨_, hw'⟩
    refine ⟨F1, A.keep h1 (fun b hb1 => ?_)⟩
    have := hw' b (w.heap[b]'(hlt b hb1)) (by simp only [hb1, if_true]; exact Array.getElem?_eq_getElem (hlt b hb1))
    rw [this]; exact (Array.getElem?_eq_getElem (hlt b hb1)).symm
  · refine ⟨F, ⟨fun b => F1 b ∨ F3 b, F4, ⟨fun b => ?_, fun b o hbo => ?_⟩, h4, ?_, ?_⟩, hb, hf, he⟩
    · by_cases h : F1 b
      · simp only [h, if_true, true_or, true_iff]; rw [Array.getElem?_eq_getElem (hlt b h)]; rfl
      · simp only [h, if_false, false_or]; exact h3 b
    · by_cases h : F1 b
      · simpa only [h, if_true] using hbo
      · simp only [h, if_false] at hbo; exact h3' b o hbo
    · intro b x y
      rcases x with x | x
      · exact hd b x ((hu' b).2 (.inr y))
      · exact hd' b x y
    · intro b
      rw [hu b, hu' b, or_assoc]
theorem St.freezeOwn {g : Gh} {w : World} {ao : Option Addr} {cap E sz n : Nat} {c : List Value} {μ : Mem} {L : List Asn} (H : St g w (own ao cap E sz n c :: imm μ :: L)) : ∃ ν, μ ≤ ν ∧ Rd (imm ν) ao c ∧ St g w (imm ν :: L) := by
  obtain ⟨F, hF⟩ := H.nth (k := 0) rfl
  have hr := own_rd hF
  obtain ⟨ν, h1, h2, h3⟩ := H.freeze
  exact ⟨ν, h1, hr.sees h2, h3⟩
theorem St.ownLen {g : Gh} {w : World} {ao : Option Addr} {cap E sz n : Nat} {c : List Value} {L : List Asn} (H : St g w (own ao cap E sz n c :: L)) : c.length = n * sz ∧ n ≤ cap := by
  obtain ⟨F, hF⟩ := H.nth (k := 0) rfl
  exact ⟨hF.1, hF.2.1⟩
theorem St.ownRd {g : Gh} {w : World} {ao : Option Addr} {cap E sz n : Nat} {c : List Value} {L : List Asn} (H : St g w (own ao cap E sz n c :: L)) : Rd (own ao cap E sz n c) ao c := by
  obtain ⟨F, hF⟩ := H.nth (k := 0) rfl
  exact own_rd hF
def pak (M : List Asn) : Asn where
  at_ w F := Sep w M F
  keep := fun h hk => h.keep hk
theorem St.unpak {g : Gh} {w : World} {M L : List Asn} : St g w (pak M :: L) → St g w (M ++ L)
  | ⟨F, ⟨_, _, h1, h2, hd, hu⟩, r⟩ => ⟨F, Sep.append h1 h2 hd hu, r⟩
theorem St.topak {g : Gh} {w : World} {M L : List Asn} : St g w (M ++ L) → St g w (pak M :: L)
  | ⟨F, hF, r⟩ => let ⟨F1, F2, h1, h2, hd, hu⟩ := hF.split; ⟨F, ⟨F1, F2, h1, h2, hd, hu⟩, r⟩
def exa {α : Type} (A : α → Asn) : Asn where
  at_ w F := ∃ x, (A x).at_ w F
  keep := fun ⟨x, h⟩ hk => ⟨x, Asn.keep _ h hk⟩
theorem St.unexa {g : Gh} {w : World} {α : Type} {A : α → Asn} {L : List Asn} : St g w (exa A :: L) → ∃ x, St g w (A x :: L)
  | ⟨F, ⟨F1, F2, ⟨x, h1⟩, h2⟩, r⟩ => ⟨x, F, ⟨F1, F2, h1, h2⟩, r⟩
theorem St.toexa {g : Gh} {w : World} {α : Type} {A : α → Asn} {L : List Asn} (x : α) : St g w (A x :: L) → St g w (exa A :: L)
  | ⟨F, ⟨F1, F2, h1, h2⟩, r⟩ => ⟨F, ⟨F1, F2, ⟨x, h1⟩, h2⟩, r⟩
def fct (p : Prop) : Asn where
  at_ _ F := p ∧ ∀ b, ¬ F b
  keep := fun h _ => h
theorem St.unfct {g : Gh} {w : World} {p : Prop} {L : List Asn} (H : St g w (fct p :: L)) : p ∧ St g w L := by
  obtain ⟨F, hF⟩ := H.nth (k := 0) rfl
  exact ⟨hF.1, H.drop⟩
theorem St.tofct {g : Gh} {w : World} {p : Prop} {L : List Asn} (hp : p) (H : St g w L) : St g w (fct p :: L) := by
  obtain ⟨F, hF, r⟩ := H
  exact ⟨F, ⟨fun _ => False, F, ⟨hp, fun _ => id⟩, hF, fun _ x => x.elim, fun b => by simp⟩, r⟩
def str (bs : List UInt8) : ByteArray := ⟨⟨bs⟩⟩
theorem str_toList (bs : List UInt8) : (str bs).toList = bs := by rw [ByteArray.toList_eq]; rfl
@[simp] theorem str_size (bs : List UInt8) : (str bs).size = bs.length := rfl
theorem str_append (a b : List UInt8) : str a ++ str b = str (a ++ b) := by
  apply ByteArray.ext
  apply Array.ext'
  simp [str]
theorem str_extract (bs : List UInt8) (l h : Nat) : (str bs).extract l h = str ((bs.take h).drop l) := by
  apply ByteArray.ext
  apply Array.ext'
  simp [str, ByteArray.extract, ByteArray.copySlice, List.drop_take]
section
variable {P : Program} {ops : Array Oper} {Q : Exit → Act → World → Prop} {rest : List Oper} {n d ty : Nat} {pos : String} {af : Array Edge} {ρ : Env} {ds : List Deferred} {w w' : World} {g : Gh} {L M : List Asn}
theorem yseqS {x y : Operand} {T U : Nat} {a b : List UInt8} (hx : ev n ρ x = some (.string (str a))) (hy : ev n ρ y = some (.string (str b))) (w : World) :
    (execOp (mk n ρ ds).eval ⟨some d, .binOp .eql T x y U, ty, pos, af, none⟩).run P w = .ok (.value (.bool (a == b))) w := by
  have := yseq (P := P) (ds := ds) (T := T) (U := U) (ty := ty) (d := d) (pos := pos) (af := af) hx hy w
  rw [this]; simp [str_toList]
theorem xseqS {x y : Operand} {T U : Nat} {a b : List UInt8} (hx : ev n ρ x = some (.string (str a))) (hy : ev n ρ y = some (.string (str b)))
    (h : wpList P ops Q rest (mk n (upd ρ d (.bool (a == b))) ds) w) : wpList P ops Q (⟨some d, .binOp .eql T x y U, ty, pos, af, none⟩ :: rest) (mk n ρ ds) w := st_val (yseqS hx hy w) h
theorem ysneS {x y : Operand} {T U : Nat} {a b : List UInt8} (hx : ev n ρ x = some (.string (str a))) (hy : ev n ρ y = some (.string (str b))) (w : World) :
    (execOp (mk n ρ ds).eval ⟨some d, .binOp .neq T x y U, ty, pos, af, none⟩).run P w = .ok (.value (.bool (!(a == b)))) w := by
  have := ysne (P := P) (ds := ds) (T := T) (U := U) (ty := ty) (d := d) (pos := pos) (af := af) hx hy w
  rw [this]; simp [str_toList]
theorem xsneS {x y : Operand} {T U : Nat} {a b : List UInt8} (hx : ev n ρ x = some (.string (str a))) (hy : ev n ρ y = some (.string (str b)))
    (h : wpList P ops Q rest (mk n (upd ρ d (.bool (!(a == b)))) ds) w) : wpList P ops Q (⟨some d, .binOp .neq T x y U, ty, pos, af, none⟩ :: rest) (mk n ρ ds) w := st_val (ysneS hx hy w) h
theorem ysge {x y : Operand} {T U : Nat} {a b : List UInt8} (hx : ev n ρ x = some (.string (str a))) (hy : ev n ρ y = some (.string (str b))) (w : World) :
    (execOp (mk n ρ ds).eval ⟨some d, .binOp .geq T x y U, ty, pos, af, none⟩).run P w = .ok (.value (.bool (!(Op.bytesLess a b)))) w := by
  simp [execOp, mk_eval hx, mk_eval hy, eqGuard, binOp, Op.stringOp, str_toList]
theorem yscat {x y : Operand} {T U : Nat} {a b : List UInt8} (hx : ev n ρ x = some (.string (str a))) (hy : ev n ρ y = some (.string (str b))) (hl : a.length + b.length ≤ 9223372036854775807) (w : World) :
    (execOp (mk n ρ ds).eval ⟨some d, .binOp .add T x y U, ty, pos, af, none⟩).run P w = .ok (.value (.string (str (a ++ b)))) w := by
  have h1 : ¬ (9223372036854775807 < ((a.length : Int) + (b.length : Int))) := by omega
  simp [execOp, mk_eval hx, mk_eval hy, eqGuard, binOp, Op.stringOp, str_append, IntKind.max, IntKind.bits, IntKind.signed, h1]
theorem xscat {x y : Operand} {T U : Nat} {a b : List UInt8} (hx : ev n ρ x = some (.string (str a))) (hy : ev n ρ y = some (.string (str b))) (hl : a.length + b.length ≤ 9223372036854775807)
    (h : wpList P ops Q rest (mk n (upd ρ d (.string (str (a ++ b)))) ds) w) : wpList P ops Q (⟨some d, .binOp .add T x y U, ty, pos, af, none⟩ :: rest) (mk n ρ ds) w := st_val (yscat hx hy hl w) h
theorem xlsS {x : Operand} {T : Nat} {s : List UInt8} [TStr P T] (hx : ev n ρ x = some (.string (str s)))
    (h : wpList P ops Q rest (mk n (upd ρ d (.int .i64 s.length)) ds) w) : wpList P ops Q (⟨some d, .call { callee := .builtin .len, args := #[x], argTypes := #[T] }, ty, pos, af, none⟩ :: rest) (mk n ρ ds) w := xls hx h
theorem xcb {x : Operand} {S T E nn cap : Nat} {ao : Option Addr} {bs : List UInt8} {A : Asn} [TSl P S E 1] [TInt P E .u8] [TStr P T] (k : Nat) (H : St g w L) (hx : ev n ρ x = some (.slice ao nn cap)) (hk : nthA L k = some A) (hr : Bys A ao bs) (hl : bs.length = nn)
    (h : wpList P ops Q rest (mk n (upd ρ d (.string (str bs))) ds) w) : wpList P ops Q (⟨some d, .convert S T x, ty, pos, af, none⟩ :: rest) (mk n ρ ds) w := by
  subst hl
  refine st_val ?_ h
  have e := run_convert_bytes_string (P := P) w S T E ao bs.length cap (TSl.out (P := P) (T := S)) (TInt.out (P := P) (T := E)) (TStr.out (P := P) (T := T))
  simp only [execOp, mk_eval hx, Sem.run_bind, e]
  obtain ⟨F, hA⟩ := H.nth hk
  cases ao with
  | none =>
    have : bs = [] := by have : bv bs = [] := hr; simpa [bv] using this
    subst this
    simp [Conv.bytesToString]; rfl
  | some a =>
    obtain ⟨b, off, s⟩ := a
    obtain ⟨h1, h2⟩ := hr
    simp at h1; subst h1
    have h3 := h2.run (P := P) hA
    rw [bv_length] at h3
    have e2 : bv bs = (bs.map fun b => (b.toNat : Int)).map (Value.int .u8) := by simp [bv]
    rw [e2] at h3
    rw [run_bytesToString w ⟨b, off, none⟩ bs.length cap _ h3]
    have key : ∀ (l : List UInt8) (s : List UInt8), (l.map fun b => (b.toNat : Int)).foldl (fun r n => r.push (UInt8.ofNat n.toNat)) (str s) = str (s ++ l) := by
      intro l
      induction l with
      | nil => intro s; simp
      | cons c l ih =>
        intro s
        simp only [List.map_cons, List.foldl_cons]
        have : (str s).push (UInt8.ofNat (c.toNat : Int).toNat) = str (s ++ [c]) := by
          apply ByteArray.ext
          apply Array.ext'
          simp [str]
        rw [this, ih]; simp
    have := key bs []
    simp only [List.nil_append] at this
    simp only [Result.andThen_ok, Sem.run_pure]
    rw [← this]; rfl
theorem xrs {x : Operand} {T : Nat} {s : ByteArray} [TStr P T] (H : St g w L) (hx : ev n ρ x = some (.string s))
    (h : ∀ b w', St g w' (obj b (.stringIter s 0) :: L) → wpList P ops Q rest (mk n (upd ρ d (.pointer (some ⟨b, 0, none⟩))) ds) w') :
    wpList P ops Q (⟨some d, .range T x, ty, pos, af, none⟩ :: rest) (mk n ρ ds) w := by
  refine st_val (w' := w.alloc (.stringIter s 0)) ?_ (h _ _ (H.alloc _))
  simp [execOp, mk_eval hx, run_range_string w T s (TStr.out (P := P) (T := T)), World.iter]
theorem xns {x : Operand} {b p r k : Nat} {bs : List UInt8} (i : Nat) (H : St g w L) (hx : ev n ρ x = some (.pointer (some ⟨b, 0, none⟩))) (hk : takeAt i L = some (obj b (.stringIter (str bs) p), M)) (hp : p < bs.length) (hd : Utf8.decode (str bs) p = (r, k))
    (h : ∀ w', St g w' (obj b (.stringIter (str bs) (p + k)) :: M) → wpList P ops Q rest (mk n (upd ρ d (.tuple #[.bool true, .int .i64 p, .int .i32 r])) ds) w') :
    wpList P ops Q (⟨some d, .next x true, ty, pos, af, none⟩ :: rest) (mk n ρ ds) w := by
  have H1 := H.front i hk
  obtain ⟨F, hF⟩ := H1.nth (k := 0) rfl
  have hg := hF.2
  refine st_val (w' := { w with heap := w.heap.setIfInBounds b (.stringIter (str bs) (p + k)) }) ?_ (h _ (H1.setObj (by simp) ?_ ?_ rfl rfl rfl))
  · simp [execOp, mk_eval hx, Instr.next, getObj, setObj, Sem.run, hg, hp, hd, goInt]
  · have hlt : b < w.heap.size := by
      rcases Nat.lt_or_ge b w.heap.size with h | h
      · exact h
      · rw [Array.getElem?_eq_none h] at hg; cases hg
    simp [hlt]
  · intro j hj; simp [Array.getElem?_setIfInBounds, Ne.symm hj]
theorem xnz {x : Operand} {b p : Nat} {bs : List UInt8} (i : Nat) (H : St g w L) (hx : ev n ρ x = some (.pointer (some ⟨b, 0, none⟩))) (hk : nthA L i = some (obj b (.stringIter (str bs) p))) (hp : bs.length ≤ p)
    (h : wpList P ops Q rest (mk n (upd ρ d (.tuple #[.bool false])) ds) w) :
    wpList P ops Q (⟨some d, .next x true, ty, pos, af, none⟩ :: rest) (mk n ρ ds) w := by
  obtain ⟨F, hF⟩ := H.nth hk
  refine st_val ?_ h
  simp [execOp, mk_eval hx, Instr.next, getObj, Sem.run, hF.2, Nat.not_lt.2 hp]
theorem dec_lt {bs : List UInt8} {p : Nat} {c : UInt8} (h : bs[p]? = some c) (hc : c.toNat < 128) : Utf8.decode (str bs) p = (c.toNat, 1) := by
  have hl : p < (str bs).size := by
    obtain ⟨h1, _⟩ := List.getElem?_eq_some_iff.1 h; exact h1
  have e : (str bs)[p]'hl = c := by
    obtain ⟨h1, h2⟩ := List.getElem?_eq_some_iff.1 h; exact h2
  have := decode_ascii (str bs) p hl (by rw [e]; exact hc)
  rw [e] at this; exact this
theorem dec_ge {bs : List UInt8} {p : Nat} {c : UInt8} (h : bs[p]? = some c) (hc : 128 ≤ c.toNat) : 128 ≤ (Utf8.decode (str bs) p).1 := by
  have hl : p < (str bs).size := by
    obtain ⟨h1, _⟩ := List.getElem?_eq_some_iff.1 h; exact h1
  have e : ((str bs).get! (p + 0)) = c := by
    obtain ⟨h1, h2⟩ := List.getElem?_eq_some_iff.1 h
    show (str bs).get! p = c
    have h3 : p < bs.length := hl
    show (bs.toArray)[p]! = c
    rw [getElem!_pos bs.toArray p (by simpa using h3)]; simpa using h2
  simp only [Utf8.decode, e]
  rw [if_neg (by omega)]
  repeat' split
  all_goals simp_all [Utf8.runeError]
  all_goals omega
theorem dec_any {bs : List UInt8} {p : Nat} (h : p < bs.length) : ∃ c r k, bs[p]? = some c ∧ Utf8.decode (str bs) p = (r, k) ∧ (c.toNat < 128 → r = c.toNat ∧ k = 1) ∧ (128 ≤ c.toNat → 128 ≤ r) := by
  refine ⟨bs[p], (Utf8.decode (str bs) p).1, (Utf8.decode (str bs) p).2, List.getElem?_eq_getElem h, rfl, fun hc => ?_, fun hc => dec_ge (List.getElem?_eq_getElem h) hc⟩
  rw [dec_lt (List.getElem?_eq_getElem h) hc]; exact ⟨rfl, rfl⟩
end
end Go.Proofs.YtegllbmkkfnajaaGreatDoor
end
section
namespace Go.Proofs.YtegllbmkkfnajaaGreatDoor
open Go Go.RowKit
abbrev KV := List UInt8 × Value
def findK : List KV → List UInt8 → Option (Nat × Value)
  | [], _ => none
  | p :: l, k => if k = p.1 then some (0, p.2) else match findK l k with | some (i, v) => some (i + 1, v) | none => none
def getK (l : List KV) (k : List UInt8) : Option Value := match findK l k with | some (_, v) => some v | none => none
def putK (l : List KV) (k : List UInt8) (v : Value) : List KV := match findK l k with | some (i, _) => l.set i (k, v) | none => l ++ [(k, v)]
def delK (l : List KV) (k : List UInt8) : List KV := match findK l k with | some (i, _) => l.eraseIdx i | none => l
def kvs (es : List MapEntry) (l : List KV) : Prop := es.map (fun e => (e.key, e.val)) = l.map fun p => (Value.string (str p.1), p.2)
theorem kvs_cons {e : MapEntry} {es : List MapEntry} {p : KV} {l : List KV} : kvs (e :: es) (p :: l) ↔ e.key = .string (str p.1) ∧ e.val = p.2 ∧ kvs es l := by
  simp [kvs, and_assoc]
theorem kvs_len {es : List MapEntry} {l : List KV} (h : kvs es l) : es.length = l.length := by have := congrArg List.length h; simpa using this
theorem str_beq (a b : List UInt8) : (str a == str b) = decide (a = b) := by
  rw [beq_toListBytes, str_toList, str_toList]
  by_cases h : a = b <;> simp [h]
theorem find_kvs (k : List UInt8) : ∀ {es : List MapEntry} {l : List KV} (i : Nat), kvs es l → Instr.findNow .string (.string (str k)) es i = some (match findK l k with | some (j, v) => some (i + j, v) | none => none)
  | [], [], i, _ => rfl
  | [], _ :: _, i, h => by have := kvs_len h; simp at this
  | _ :: _, [], i, h => by have := kvs_len h; simp at this
  | e :: es, p :: l, i, h => by
    obtain ⟨h1, h2, h3⟩ := kvs_cons.1 h
    simp only [Instr.findNow, h1, Instr.sameNow, str_beq, findK]
    by_cases hk : k = p.1
    · simp [hk, h2]
    · simp only [hk, decide_false, if_false]
      rw [find_kvs k (i + 1) h3]
      cases findK l k with
      | none => rfl
      | some q => obtain ⟨j, v⟩ := q; simp; omega
theorem findK_lt {l : List KV} {k : List UInt8} {i : Nat} {v : Value} (h : findK l k = some (i, v)) : i < l.length ∧ l[i]? = some (k, v) := by
  induction l generalizing i with
  | nil => simp [findK] at h
  | cons p l ih =>
    simp only [findK] at h
    split at h
    · rename_i e; simp at h; obtain ⟨rfl, rfl⟩ := h; simp [e]
    · split at h
      · rename_i j u hj
        simp at h; obtain ⟨rfl, rfl⟩ := h
        have := ih hj
        simp; exact this
      · cases h
def smap (b : Nat) (l : List KV) : Asn where
  at_ w F := (∀ x, F x ↔ x = b) ∧ ∃ es clock, w.heap[b]? = some (.map es clock) ∧ kvs es.toList l ∧ (es.toList.map (fun e : MapEntry => e.born)).Nodup ∧ ∀ e ∈ es.toList, e.born < clock
  keep := fun ⟨h1, es, c, h2, r⟩ hk => ⟨h1, es, c, (hk _ ((h1 _).2 rfl)).trans h2, r⟩
def mrng (m it : Nat) (l left : List KV) (cur : Option KV) : Asn where
  at_ w F := m ≠ it ∧ (∀ x, F x ↔ x = m ∨ x = it) ∧ ∃ es clock seen, w.heap[m]? = some (.map es clock) ∧ kvs es.toList l ∧ (es.toList.map (fun e : MapEntry => e.born)).Nodup ∧ (∀ e ∈ es.toList, e.born < clock) ∧
    w.heap[it]? = some (.mapIter (some m) clock seen clock) ∧ kvs (leftOf es seen).toList left ∧ (∀ p, cur = some p → ∃ (e : MapEntry) (s' : Array Nat), e ∈ es.toList ∧ seen = s'.push e.born ∧ e.key = .string (str p.1) ∧ e.val = p.2)
  keep := fun ⟨h0, h1, es, c, s, h2, h3, h4, h5, h6, r⟩ hk => ⟨h0, h1, es, c, s, (hk _ ((h1 _).2 (.inl rfl))).trans h2, h3, h4, h5, (hk _ ((h1 _).2 (.inr rfl))).trans h6, r⟩
class TZv (P : Program) (T : TypeId) (v : outParam Value) : Prop where
  out : ∀ w, (zeroValue T).run P w = .ok v w
section
variable {P : Program} {ops : Array Oper} {Q : Exit → Act → World → Prop} {rest : List Oper} {n d ty : Nat} {pos : String} {af : Array Edge} {ρ : Env} {ds : List Deferred} {w w' : World} {g : Gh} {L M : List Asn}
theorem St.unrange {m it : Nat} {l left : List KV} {cur : Option KV} (H : St g w (mrng m it l left cur :: L)) : St g w (smap m l :: L) := by
  obtain ⟨F, ⟨F1, F2, ⟨h0, h1, es, c, s, h2, h3, h4, h5, h6, _⟩, hL, hd, hu⟩, hb, hf, he⟩ := H
  refine ⟨fun x => x = m ∨ F2 x, ⟨fun x => x = m, F2, ⟨fun _ => Iff.rfl, es, c, h2, h3, h4, h5⟩, hL, fun x e y => hd x ((h1 x).2 (.inl e)) y, fun _ => Iff.rfl⟩, fun x hx => hb x ((hu x).2 ?_), fun x hx => hf x ((hu x).2 ?_), he⟩
  all_goals (rcases hx with hx | hx; exact .inl ((h1 x).2 (.inl hx)); exact .inr hx)
theorem checkStr' {K : TypeId} [TStr P K] (n : Nat) (b : Bool) (s : ByteArray) (w : World) : (Instr.checkKey b (n + 1) K (.string s)).run P w = .ok () w := by
  simp [Instr.checkKey, run_underlying (TStr.out (P := P) (T := K))]
theorem checkStr {K : TypeId} [TStr P K] (b : Bool) (s : ByteArray) (w : World) : (Instr.checkKey b 10000 K (.string s)).run P w = .ok () w := checkStr' 9999 b s w
theorem findStr {K : TypeId} [TStr P K] {k : List UInt8} {es : List MapEntry} {l : List KV} (h : kvs es l) (w : World) : (Instr.findKey K (.string (str k)) es).run P w = .ok (findK l k) w := by
  simp only [Instr.findKey, Sem.run_bind, run_underlying (TStr.out (P := P) (T := K)), Result.andThen_ok, find_kvs k 0 h]
  cases findK l k with
  | none => rfl
  | some q => obtain ⟨j, v⟩ := q; simp
theorem run_lk {T K E b : Nat} {es : Array MapEntry} {clock : Nat} {l : List KV} {k : List UInt8} {z : Value} [TMp P T K E] [TStr P K] [TZv P E z] (hb : w.heap[b]? = some (.map es clock)) (h : kvs es.toList l) (ok : Bool) :
    (Instr.lookup T (.map (some b)) (.string (str k)) ok).run P w = .ok (if ok then .tuple #[(getK l k).getD z, .bool (getK l k).isSome] else (getK l k).getD z) w := by
  have ht := TMp.out (P := P) (T := T)
  have hf := findStr (P := P) (K := K) (k := k) h w
  have hc := checkStr (P := P) (K := K) es.isEmpty (str k) w
  simp only [Instr.lookup, Sem.run_bind, run_underlying ht, Result.andThen_ok, MapKept.run_getObj_map hb, Sem.run_pure, hc, hf, getK]
  cases findK l k with
  | none => simp [TZv.out (P := P) (T := E) w]
  | some q => obtain ⟨j, v⟩ := q; simp
theorem xlk {T K E b : Nat} {x y : Operand} {l : List KV} {k : List UInt8} {z : Value} [TMp P T K E] [TStr P K] [TZv P E z] (i : Nat) (H : St g w L) (hx : ev n ρ x = some (.map (some b))) (hy : ev n ρ y = some (.string (str k))) (hk : nthA L i = some (smap b l))
    (h : wpList P ops Q rest (mk n (upd ρ d ((getK l k).getD z)) ds) w) : wpList P ops Q (⟨some d, .lookup T x y false, ty, pos, af, none⟩ :: rest) (mk n ρ ds) w := by
  obtain ⟨F, _, es, c, hb, hkv, _⟩ := H.nth hk
  refine st_val ?_ h
  have := run_lk (P := P) (T := T) (k := k) (z := z) hb hkv false
  simp only [execOp, mk_eval hx, mk_eval hy, Sem.run_bind, this]; rfl
theorem xlm {T K E b : Nat} {x : Operand} {l : List KV} [TMp P T K E] (i : Nat) (H : St g w L) (hx : ev n ρ x = some (.map (some b))) (hk : nthA L i = some (smap b l))
    (h : wpList P ops Q rest (mk n (upd ρ d (.int .i64 l.length)) ds) w) : wpList P ops Q (⟨some d, .call { callee := .builtin .len, args := #[x], argTypes := #[T] }, ty, pos, af, none⟩ :: rest) (mk n ρ ds) w := by
  obtain ⟨F, _, es, c, hb, hkv, _⟩ := H.nth hk
  refine st_val ?_ h
  have hl := kvs_len hkv
  simp [execOp, resolve, invoke, builtin, mk_eval hx, Builtin.len_, run_underlying (TMp.out (P := P) (T := T)), MapKept.run_getObj_map hb, goInt]
  have hl' : es.size = l.length := by simpa using hl
  rw [hl']
theorem kvs_set {es : List MapEntry} {l : List KV} {i : Nat} {k : List UInt8} {v : Value} {f : MapEntry → MapEntry} (h : kvs es l) (hf : ∀ e, es[i]? = some e → (f e).key = .string (str k) ∧ (f e).val = v) (hi : i < es.length) : kvs (es.modify i f) (l.set i (k, v)) := by
  unfold kvs at *
  apply List.ext_getElem?
  intro j
  have hj : (es.map fun e => (e.key, e.val))[j]? = (l.map fun p => (Value.string (str p.1), p.2))[j]? := by rw [h]
  have hli : i < l.length := by have := kvs_len h; omega
  simp only [List.getElem?_map, List.getElem?_modify, List.getElem?_set] at hj ⊢
  by_cases e : i = j
  · subst e
    have h2 := hf (es[i]) (List.getElem?_eq_getElem hi)
    simp [hi, hli, h2]
  · simp only [e, if_false]; simpa using hj
theorem nodup_modify {es : List MapEntry} {i : Nat} {f : MapEntry → MapEntry} (hf : ∀ e, (f e).born = e.born) : (es.modify i f).map (fun e : MapEntry => e.born) = es.map (fun e : MapEntry => e.born) := by
  apply List.ext_getElem?
  intro j
  simp only [List.getElem?_map, List.getElem?_modify]
  split
  · rename_i e; subst e; cases es[i]? <;> simp [hf]
  · cases es[j]? <;> simp
theorem heap_set_eq {b : Nat} {o o' : Obj} (hb : w.heap[b]? = some o) : (ChangeMaps.setBlock w b o').heap[b]? = some o' ∧ (ChangeMaps.setBlock w b o').heap.size = w.heap.size ∧ ∀ k, k ≠ b → (ChangeMaps.setBlock w b o').heap[k]? = w.heap[k]? := by
  have hlt : b < w.heap.size := by
    rcases Nat.lt_or_ge b w.heap.size with h | h
    · exact h
    · rw [Array.getElem?_eq_none h] at hb; cases hb
  refine ⟨by simp [ChangeMaps.setBlock, hlt], by simp [ChangeMaps.setBlock], fun k hk => ?_⟩
  simp [ChangeMaps.setBlock, Array.getElem?_setIfInBounds, Ne.symm hk]
theorem map_erase {α β : Type} (f : α → β) : ∀ (l : List α) (i : Nat), (l.eraseIdx i).map f = (l.map f).eraseIdx i
  | [], i => by simp
  | a :: l, 0 => by simp
  | a :: l, i + 1 => by simp [map_erase f l i]
theorem run_setObj_any {r : Nat} {es : Array MapEntry} {c : Nat} (hr : w.heap[r]? = some (.map es c)) (o' : Obj) : (setObj r o').run P w = .ok () (ChangeMaps.setBlock w r o') := by
  simp [setObj, Sem.run, hr, ChangeMaps.setBlock]
theorem xmu {T K E b : Nat} {x y z : Operand} {l : List KV} {k : List UInt8} {v : Value} [TMp P T K E] [TStr P K] (i : Nat) (H : St g w L) (hx : ev n ρ x = some (.map (some b))) (hy : ev n ρ y = some (.string (str k))) (hz : ev n ρ z = some v) (hk : takeAt i L = some (smap b l, M))
    (h : ∀ w', St g w' (smap b (putK l k v) :: M) → wpList P ops Q rest (mk n ρ ds) w') : wpList P ops Q (⟨none, .mapUpdate T x y z, ty, pos, af, none⟩ :: rest) (mk n ρ ds) w := by
  have H1 := H.front i hk
  obtain ⟨F, hF, es, c, hb, hkv, hn, hc⟩ := H1.nth (k := 0) rfl
  have hf := findStr (P := P) (K := K) (k := k) hkv w
  have hck := checkStr (P := P) (K := K) false (str k) w
  have ht := TMp.out (P := P) (T := T)
  cases hfk : findK l k with
  | none =>
    rw [hfk] at hf
    obtain ⟨g1, g2, g3⟩ := heap_set_eq (o' := .map (es.push { key := .string (str k), val := v, born := c }) (c + 1)) hb
    refine st_skip (w' := ChangeMaps.setBlock w b (.map (es.push { key := .string (str k), val := v, born := c }) (c + 1))) ?_ (h _ (H1.turn (b := b) (fun G hG => (hG.1 b).2 rfl) ⟨fun _ => Iff.rfl, _, _, g1, ?_, ?_, ?_⟩ g2 g3 rfl rfl rfl))
    · simp only [execOp, mk_eval hx, mk_eval hy, mk_eval hz, Instr.mapUpdate, Sem.run_bind, run_underlying ht, Result.andThen_ok, MapKept.run_getObj_map hb, hck, hf, run_setObj_any hb]
      rfl
    · have hkv' : es.toList.map (fun e => (e.key, e.val)) = _ := hkv
      simp [putK, hfk, kvs, hkv']
    · simp only [Array.toList_push, List.map_append, List.map_cons, List.map_nil]
      refine List.nodup_append.2 ⟨hn, by simp, ?_⟩
      intro a ha a' ha'
      simp at ha'; subst ha'
      obtain ⟨e, he, rfl⟩ := List.mem_map.1 ha
      exact Nat.ne_of_lt (hc e he)
    · intro e he
      simp at he
      rcases he with he | rfl
      · exact Nat.lt_succ_of_lt (hc e (by simpa using he))
      · exact Nat.lt_succ_self _
  | some q =>
    obtain ⟨j, u⟩ := q
    rw [hfk] at hf
    obtain ⟨hj, hje⟩ := findK_lt hfk
    have hlen := kvs_len hkv
    have hjs : j < es.size := by have : es.toList.length = l.length := hlen; simp at this; omega
    have hkey : ((es[j]?).map (·.key)).getD (.string (str k)) = .string (str k) := by
      have e1 : (es.toList.map fun e => (e.key, e.val))[j]? = (l.map fun p => (Value.string (str p.1), p.2))[j]? := by rw [show es.toList.map (fun e => (e.key, e.val)) = _ from hkv]
      simp only [List.getElem?_map, hje, Array.getElem?_toList] at e1
      rw [Array.getElem?_eq_getElem hjs] at e1 ⊢
      simp at e1 ⊢; exact e1.1
    have hks : (Instr.keyThatStays (.string (str k)) (.string (str k))).run P w = .ok (.string (str k)) w := by
      have e : Instr.sameBits 10000 (.string (str k)) (.string (str k)) = true := by show (str k == str k) = true; rw [str_beq]; simp
      simp [Instr.keyThatStays, e]
    obtain ⟨g1, g2, g3⟩ := heap_set_eq (o' := .map (es.modify j fun e => { e with key := .string (str k), val := v }) c) hb
    refine st_skip (w' := ChangeMaps.setBlock w b (.map (es.modify j fun e => { e with key := .string (str k), val := v }) c)) ?_ (h _ (H1.turn (b := b) (fun G hG => (hG.1 b).2 rfl) ⟨fun _ => Iff.rfl, _, _, g1, ?_, ?_, ?_⟩ g2 g3 rfl rfl rfl))
    · simp only [execOp, mk_eval hx, mk_eval hy, mk_eval hz, Instr.mapUpdate, Sem.run_bind, run_underlying ht, Result.andThen_ok, MapKept.run_getObj_map hb, hck, hf, hkey, hks, run_setObj_any hb]
      rfl
    · simp only [putK, hfk, Array.toList_modify]
      exact kvs_set hkv (fun e _ => ⟨rfl, rfl⟩) (by simpa using hjs)
    · rw [Array.toList_modify, nodup_modify (f := fun e => { e with key := .string (str k), val := v }) (fun _ => rfl)]; exact hn
    · intro e he
      have : e.born ∈ (es.toList.map (fun e : MapEntry => e.born)) := by
        rw [← nodup_modify (es := es.toList) (i := j) (f := fun e => { e with key := .string (str k), val := v }) (fun _ => rfl), ← Array.toList_modify]
        exact List.mem_map.2 ⟨e, he, rfl⟩
      obtain ⟨e', he', e2⟩ := List.mem_map.1 this
      rw [← e2]; exact hc e' he'
theorem xmdl {T U K E b : Nat} {x y : Operand} {l : List KV} {k : List UInt8} [TMp P T K E] [TStr P K] (i : Nat) (H : St g w L) (hx : ev n ρ x = some (.map (some b))) (hy : ev n ρ y = some (.string (str k))) (hk : takeAt i L = some (smap b l, M))
    (h : ∀ w', St g w' (smap b (delK l k) :: M) → wpList P ops Q rest (mk n ρ ds) w') : wpList P ops Q (⟨none, .call { callee := .builtin .delete, args := #[x, y], argTypes := #[T, U] }, ty, pos, af, none⟩ :: rest) (mk n ρ ds) w := by
  have H1 := H.front i hk
  obtain ⟨F, hF, es, c, hb, hkv, hn, hc⟩ := H1.nth (k := 0) rfl
  have hf := findStr (P := P) (K := K) (k := k) hkv w
  have hck := checkStr (P := P) (K := K) es.isEmpty (str k) w
  have ht := TMp.out (P := P) (T := T)
  cases hfk : findK l k with
  | none =>
    rw [hfk] at hf
    obtain ⟨g1, g2, g3⟩ := heap_set_eq (o' := .map es c) hb
    refine st_void (v := .tuple #[]) (w' := ChangeMaps.setBlock w b (.map es c)) ?_ (h _ (H1.turn (b := b) (fun G hG => (hG.1 b).2 rfl) ⟨fun _ => Iff.rfl, _, _, g1, ?_, hn, hc⟩ g2 g3 rfl rfl rfl))
    · simp [execOp, resolve, invoke, builtin, mk_eval hx, mk_eval hy, Builtin.delete_, run_underlying ht, MapKept.run_getObj_map hb, hck, hf, run_setObj_any hb]
    · simpa [delK, hfk] using hkv
  | some q =>
    obtain ⟨j, u⟩ := q
    rw [hfk] at hf
    obtain ⟨g1, g2, g3⟩ := heap_set_eq (o' := .map (es.eraseIdxIfInBounds j) c) hb
    have hj := (findK_lt hfk).1
    have hlen := kvs_len hkv
    have hjs : j < es.size := by have : es.toList.length = l.length := hlen; simp at this; omega
    have he : (es.eraseIdxIfInBounds j).toList = es.toList.eraseIdx j := by simp [Array.eraseIdxIfInBounds, hjs]
    refine st_void (v := .tuple #[]) (w' := ChangeMaps.setBlock w b (.map (es.eraseIdxIfInBounds j) c)) ?_ (h _ (H1.turn (b := b) (fun G hG => (hG.1 b).2 rfl) ⟨fun _ => Iff.rfl, _, _, g1, ?_, ?_, ?_⟩ g2 g3 rfl rfl rfl))
    · simp [execOp, resolve, invoke, builtin, mk_eval hx, mk_eval hy, Builtin.delete_, run_underlying ht, MapKept.run_getObj_map hb, hck, hf, run_setObj_any hb]
    · simp only [delK, hfk, he, kvs]
      rw [map_erase, show es.toList.map (fun e => (e.key, e.val)) = _ from hkv, map_erase]
    · rw [he, map_erase]; exact hn.sublist (List.eraseIdx_sublist _ _)
    · intro e hm; rw [he] at hm; exact hc e (List.mem_of_mem_eraseIdx hm)
theorem xmm {T : Nat} (H : St g w L) (h : ∀ b w', St g w' (smap b [] :: L) → wpList P ops Q rest (mk n (upd ρ d (.map (some b))) ds) w') : wpList P ops Q (⟨some d, .makeMap T none, ty, pos, af, none⟩ :: rest) (mk n ρ ds) w := by
  have H1 := H.ownNil 0 0
  refine st_val (w' := w.alloc (.map #[] 0)) (v := .map (some w.heap.size)) ?_ (h _ _ (St.renew H1 ⟨fun _ => Iff.rfl, #[], 0, heap_alloc_new _ _, rfl, List.nodup_nil, fun e he => by simp at he⟩))
  simp [execOp, Instr.makeMap]
theorem xmr {T K E b : Nat} {x : Operand} {l : List KV} [TMp P T K E] (i : Nat) (H : St g w L) (hx : ev n ρ x = some (.map (some b))) (hk : takeAt i L = some (smap b l, M))
    (h : ∀ it w', St g w' (mrng b it l l none :: M) → wpList P ops Q rest (mk n (upd ρ d (.pointer (some ⟨it, 0, none⟩))) ds) w') : wpList P ops Q (⟨some d, .range T x, ty, pos, af, none⟩ :: rest) (mk n ρ ds) w := by
  have H1 := H.front i hk
  obtain ⟨F0, hF0, es, c, hb, hkv, hn, hc⟩ := H1.nth (k := 0) rfl
  have ht := TMp.out (P := P) (T := T)
  refine st_val (w' := w.alloc (.mapIter (some b) c #[] c)) ?_ (h w.heap.size _ ?_)
  · simp [execOp, mk_eval hx, run_range_map w T K E b es c ht hb]
  · have H2 := H1.alloc (.mapIter (some b) c #[] c)
    obtain ⟨F, ⟨F1, F2, h1, ⟨F3, F4, h3, h4, hd', hu'⟩, hd, hu⟩, r⟩ := H2
    have hne : b ≠ w.heap.size := fun e => by rw [e, Array.getElem?_eq_none (Nat.le_refl _)] at hb; cases hb
    refine ⟨F, ⟨fun x => F1 x ∨ F3 x, F4, ⟨hne, fun x => by show F1 x ∨ F3 x ↔ _; rw [h1.1 x, h3.1 x]; exact or_comm, es, c, #[], ?_, hkv, hn, hc, h1.2, ?_, ?_⟩, h4, ?_, ?_⟩, r⟩
    · rw [heap_alloc_old w _ (by rcases Nat.lt_or_ge b w.heap.size with h | h; exact h; rw [Array.getElem?_eq_none h] at hb; cases hb)]; exact hb
    · have : leftOf es #[] = es := by unfold leftOf; simp
      rw [this]; exact hkv
    · intro p hp; cases hp
    · intro x a y
      rcases a with a | a
      · exact hd x a ((hu' x).2 (.inr y))
      · exact hd' x a y
    · intro x; rw [hu x, hu' x, or_assoc]
theorem kvs_split {a c : List MapEntry} {e : MapEntry} {l : List KV} (h : kvs (a ++ e :: c) l) : ∃ l1 p l2, l = l1 ++ p :: l2 ∧ kvs a l1 ∧ kvs c l2 ∧ e.key = .string (str p.1) ∧ e.val = p.2 := by
  induction a generalizing l with
  | nil =>
    cases l with
    | nil => have := kvs_len h; simp at this
    | cons p l => obtain ⟨h1, h2, h3⟩ := kvs_cons.1 h; exact ⟨[], p, l, rfl, rfl, h3, h1, h2⟩
  | cons x a ih =>
    cases l with
    | nil => have := kvs_len h; simp at this
    | cons q l =>
      obtain ⟨h1, h2, h3⟩ := kvs_cons.1 h
      obtain ⟨l1, p, l2, rfl, i1, i2⟩ := ih h3
      exact ⟨q :: l1, p, l2, rfl, kvs_cons.2 ⟨h1, h2, i1⟩, i2⟩
theorem kvs_app {a c : List MapEntry} {l1 l2 : List KV} (h1 : kvs a l1) (h2 : kvs c l2) : kvs (a ++ c) (l1 ++ l2) := by
  unfold kvs at *; rw [List.map_append, List.map_append, h1, h2]
theorem xmnx {m it : Nat} {x : Operand} {l left : List KV} {cur : Option KV} (i : Nat) (H : St g w L) (hx : ev n ρ x = some (.pointer (some ⟨it, 0, none⟩))) (hk : takeAt i L = some (mrng m it l left cur, M))
    (h0 : left = [] → St g w (mrng m it l [] cur :: M) → wpList P ops Q rest (mk n (upd ρ d (.tuple #[.bool false])) ds) w)
    (h1 : ∀ a p c w', left = a ++ p :: c → St g w' (mrng m it l (a ++ c) (some p) :: M) → wpList P ops Q rest (mk n (upd ρ d (.tuple #[.bool true, .string (str p.1), p.2])) ds) w') :
    wpList P ops Q (⟨some d, .next x false, ty, pos, af, none⟩ :: rest) (mk n ρ ds) w := by
  have H1 := H.front i hk
  obtain ⟨F, hne, hF, es, c, seen, hb, hkv, hn, hc, hr, hl, hcur⟩ := H1.nth (k := 0) rfl
  rcases run_next_at (P := P) w ty it m c c seen es c hr hb hc (Nat.le_refl _) with ⟨hz, hrun⟩ | ⟨e, he, w1, hw1, hrun⟩
  · have hleft : left = [] := by
      have hz' : (leftOf es seen).toList.length = 0 := by simpa using hz
      have := kvs_len hl
      rw [hz'] at this
      exact List.eq_nil_of_length_eq_zero this.symm
    subst hleft
    exact st_val (by simp [execOp, mk_eval hx, hrun]) (h0 rfl H1)
  · obtain ⟨a, c', ha⟩ := List.append_of_mem he
    rw [ha] at hl
    obtain ⟨l1, p, l2, hlp, k1, k2, k3, k4⟩ := kvs_split hl
    have hr1 : w1.heap[it]? = some (.mapIter (some m) c seen c) := by rcases hw1 with rfl | rfl <;> exact hr
    have hb1 : w1.heap[m]? = some (.map es c) := by rcases hw1 with rfl | rfl <;> exact hb
    have H2 : St g w1 (mrng m it l left cur :: M) := by rcases hw1 with rfl | rfl; exact H1; exact H1.drew
    obtain ⟨g1, g2, g3⟩ := heap_set_eq (o' := .mapIter (some m) c (seen.push e.born) c) hr1
    have hee : e ∈ es.toList := by
      have : e ∈ leftOf es seen := by simpa using he
      unfold leftOf at this
      simp at this; simpa using this.1
    have hv : (execOp (mk n ρ ds).eval ⟨some d, .next x false, ty, pos, af, none⟩).run P w = .ok (.value (.tuple #[.bool true, .string (str p.1), p.2])) (ChangeMaps.setBlock w1 it (.mapIter (some m) c (seen.push e.born) c)) := by
      simp [execOp, mk_eval hx, hrun, k3, k4]
    refine st_val hv (h1 l1 p l2 _ hlp ?_)
    refine St.frame1 (S' := [mrng m it l (l1 ++ l2) (some p)]) H2 (fun g' h' => ?_)
    obtain ⟨F'', ⟨G1, G2, ⟨_, hG1, _⟩, hL', hd2, hu2⟩, hbb2, hff2, hext2⟩ := h'
    have hnoth : ∀ x, ¬ G2 x := hL'
    have hF'' : ∀ x, F'' x ↔ x = m ∨ x = it := fun x => by rw [hu2 x, hG1 x]; exact ⟨fun h => h.resolve_right (hnoth x), .inl⟩
    refine ⟨F'', ⟨F'', fun _ => False, ⟨hne, hF'', es, c, seen.push e.born, (g3 m hne).trans hb1, hkv, hn, hc, g1, ?_, ?_⟩, fun _ => id, fun _ _ x => x, fun x => by simp⟩, ?_, hff2, ?_⟩
    · have hleft : (leftOf es (seen.push e.born)).toList = a ++ c' := by
        have hnd : ((leftOf es seen).toList.map (fun e : MapEntry => e.born)).Nodup := by
          unfold leftOf
          rw [Array.toList_filter]
          exact hn.sublist ((List.filter_sublist).map _)
        have e1 : (leftOf es (seen.push e.born)).toList = (leftOf es seen).toList.filter (fun x => !(x.born == e.born)) := by
          unfold leftOf
          rw [Array.toList_filter, Array.toList_filter, List.filter_filter]
          congr 1
          funext x
          cases h1 : (x.born == e.born) <;> cases h2 : seen.contains x.born <;> simp_all [Array.contains_push]
        rw [e1, ha, List.filter_append, List.filter_cons]
        rw [ha, List.map_append, List.map_cons] at hnd
        have hd1 := List.nodup_append.1 hnd
        have hd2 := List.nodup_cons.1 hd1.2.1
        rw [List.filter_eq_self.2, List.filter_eq_self.2]
        · simp
        · intro x hx
          have : x.born ≠ e.born := fun h => hd2.1 (h ▸ List.mem_map.2 ⟨x, hx, rfl⟩)
          simpa using this
        · intro x hx
          have : x.born ≠ e.born := hd1.2.2 _ (List.mem_map.2 ⟨x, hx, rfl⟩) _ (by simp)
          simpa using this
      rw [hleft]; exact kvs_app k1 k2
    · intro q hq
      have : p = q := by simpa using hq
      subst this
      exact ⟨e, seen, hee, rfl, k3, k4⟩
    · intro x hx; rw [g2]; exact hbb2 x hx
    · refine ⟨g2 ▸ hext2.size, fun x hlt hnx => ?_, hext2.tape, hext2.os, hext2.output⟩
      have hxi : x ≠ it := fun h => by
        rw [h] at hlt hnx
        rcases hff2 it ((hF'' it).2 (.inr rfl)) with y | y
        · exact hnx y
        · exact absurd hlt (Nat.not_lt.2 y)
      exact (g3 x hxi).trans (hext2.old x hlt hnx)
theorem xme {m it : Nat} {x : Operand} {l left : List KV} {p : KV} (i : Nat) (H : St g w L) (hx : ev n ρ x = some (.pointer (some ⟨it, 0, none⟩))) (hk : nthA L i = some (mrng m it l left (some p)))
    (h : wpList P ops Q rest (mk n (upd ρ d (.tuple #[.string (str p.1), p.2])) ds) w) : wpList P ops Q (⟨some d, .entry x, ty, pos, af, none⟩ :: rest) (mk n ρ ds) w := by
  obtain ⟨F, hne, hF, es, c, seen, hb, hkv, hn, hc, hr, hl, hcur⟩ := H.nth hk
  obtain ⟨e, s', he, hs, hke, hve⟩ := hcur p rfl
  subst hs
  have := run_entry_at (P := P) w it m c s' es c e hr hb he hn
  rw [hke, hve] at this
  exact st_val (by simp [execOp, mk_eval hx, this]) h
end
end Go.Proofs.YtegllbmkkfnajaaGreatDoor
end
section
namespace Go.Proofs.YtegllbmkkfnajaaGreatDoor
open Go Go.RowKit
def dropO : Nat → List Oper → Option (List Oper)
  | 0, l => some l
  | _ + 1, [] => none
  | k + 1, _ :: l => dropO k l
def AllU : List Nat → Env → (Env → Prop) → Prop
  | [], ρ, p => p ρ
  | t :: ts, ρ, p => ∀ u, AllU ts (upd ρ t u) p
section
variable {P : Program} {ops : Array Oper} {Q : Exit → Act → World → Prop} {rest l : List Oper} {n d ty : Nat} {pos : String} {af : Array Edge} {ρ : Env} {ds : List Deferred} {w w' : World} {g : Gh} {L M : List Asn}
theorem upd_known {t : Nat} {v : Value} (hv : ev n ρ (.tmp t) = some v) : upd ρ t v = ρ := by
  have hρ : ρ t = some v := by
    simp only [ev] at hv
    cases h : Nat.blt t n with
    | true => rw [h] at hv; exact hv
    | false => rw [h] at hv; cases hv
  funext u
  by_cases hu : u = t
  · subst hu; rw [upd_same, hρ]
  · rw [upd_ne hu]
theorem xgu {op : Op} {dst : Option Tmp} {j t : Nat} {b : Bool} (hj : guardTmp ops j = some t) (hv : ev n ρ (.tmp t) = some undef)
    (h : wpList P ops Q rest (match dst with | some d => mk n (upd ρ d undef) ds | none => mk n ρ ds) w) :
    wpList P ops Q (⟨dst, op, ty, pos, af, some (j, b)⟩ :: rest) (mk n ρ ds) w := by
  have hd : (ops[j]?).bind (·.dst) = some t := by
    unfold guardTmp at hj
    rw [Array.getElem?_toList] at hj
    cases h : ops[j]? with
    | none => rw [h] at hj; cases hj
    | some o => rw [h] at hj; simpa using hj
  have he : (mk n ρ ds).eval (.tmp t) = undef := mk_eval hv
  have hy : yielded ops (mk n ρ ds).tmps j = none := by
    unfold yielded
    rw [hd]
    simp only [Act.eval, Array.getD_eq_getD_getElem?] at he
    cases h : (mk n ρ ds).tmps[t]? with
    | none => simp [h]
    | some v => rw [h] at he; simp at he; subst he; simp [h, undef]
  unfold wpList
  rw [if_neg (by simp only [Region.wanted, hy]; simp)]
  cases dst with
  | none => exact h
  | some d => rw [mk_put]; exact h
theorem jand {a b : Bool} (m t : Nat) (ts : List Nat) (p : Nat) (_hl : dropO m l = some rest) (hv : ev n ρ (.tmp t) = some (.bool a)) (H : St g w L)
    (h1 : a = true → (AllU ts (upd ρ t (.bool true)) fun ρ' => ∀ w', St g w' L → wpList P ops Q rest (mk n (upd ρ' p (.bool b)) ds) w') → wpList P ops Q l (mk n (upd ρ t (.bool true)) ds) w)
    (h2 : a = false → (AllU ts (upd ρ t (.bool false)) fun ρ' => ∀ w', St g w' L → wpList P ops Q rest (mk n (upd ρ' p (.bool false)) ds) w') → wpList P ops Q l (mk n (upd ρ t (.bool false)) ds) w)
    (hc : AllU ts ρ fun ρ' => ∀ w', St g w' L → wpList P ops Q rest (mk n (upd ρ' p (.bool (a && b))) ds) w') : wpList P ops Q l (mk n ρ ds) w := by
  cases a with
  | true => have := h1 rfl; rw [upd_known hv] at this; exact this hc
  | false => have := h2 rfl; rw [upd_known hv] at this; exact this hc
theorem jor {a b : Bool} (m t : Nat) (ts : List Nat) (p : Nat) (_hl : dropO m l = some rest) (hv : ev n ρ (.tmp t) = some (.bool a)) (H : St g w L)
    (h1 : a = false → (AllU ts (upd ρ t (.bool false)) fun ρ' => ∀ w', St g w' L → wpList P ops Q rest (mk n (upd ρ' p (.bool b)) ds) w') → wpList P ops Q l (mk n (upd ρ t (.bool false)) ds) w)
    (h2 : a = true → (AllU ts (upd ρ t (.bool true)) fun ρ' => ∀ w', St g w' L → wpList P ops Q rest (mk n (upd ρ' p (.bool true)) ds) w') → wpList P ops Q l (mk n (upd ρ t (.bool true)) ds) w)
    (hc : AllU ts ρ fun ρ' => ∀ w', St g w' L → wpList P ops Q rest (mk n (upd ρ' p (.bool (a || b))) ds) w') : wpList P ops Q l (mk n ρ ds) w := by
  cases a with
  | true => have := h2 rfl; rw [upd_known hv] at this; exact this hc
  | false => have := h1 rfl; rw [upd_known hv] at this; exact this hc
end
end Go.Proofs.YtegllbmkkfnajaaGreatDoor
end
section
namespace Go.Proofs.YtegllbmkkfnajaaGreatDoor
open Go Go.RowKit
theorem wrapN {k : IntKind} (hk : k.signed = false) {a : Nat} (ha : a < 2 ^ k.bits) : k.wrap (a : Int) = a := by
  have h2 : ((2 ^ k.bits : Nat) : Int) = (2 : Int) ^ k.bits := by norm_cast
  simp only [IntKind.wrap, hk]
  simp
  rw [← h2]
  exact Int.emod_eq_of_lt (Int.natCast_nonneg a) (Int.ofNat_lt.2 ha)
theorem wrapM {k : IntKind} (hk : k.signed = false) (a : Nat) : k.wrap (a : Int) = ((a % 2 ^ k.bits : Nat) : Int) := by
  have h2 : ((2 ^ k.bits : Nat) : Int) = (2 : Int) ^ k.bits := by norm_cast
  simp only [IntKind.wrap, hk]
  simp
theorem andN {k : IntKind} (hk : k.signed = false) {a b : Nat} (ha : a < 2 ^ k.bits) (hb : b < 2 ^ k.bits) : bitsI .and k a b = ((a &&& b : Nat) : Int) := by
  simp only [bitsI, BitVec.ofInt_natCast, BitVec.toNat_and, BitVec.toNat_ofNat, Nat.mod_eq_of_lt ha, Nat.mod_eq_of_lt hb]
  exact wrapN hk (Nat.and_lt_two_pow _ hb)
theorem orN {k : IntKind} (hk : k.signed = false) {a b : Nat} (ha : a < 2 ^ k.bits) (hb : b < 2 ^ k.bits) : bitsI .or k a b = ((a ||| b : Nat) : Int) := by
  simp only [bitsI, BitVec.ofInt_natCast, BitVec.toNat_or, BitVec.toNat_ofNat, Nat.mod_eq_of_lt ha, Nat.mod_eq_of_lt hb]
  exact wrapN hk (Nat.or_lt_two_pow ha hb)
theorem xorN {k : IntKind} (hk : k.signed = false) {a b : Nat} (ha : a < 2 ^ k.bits) (hb : b < 2 ^ k.bits) : bitsI .xor k a b = ((a ^^^ b : Nat) : Int) := by
  simp only [bitsI, BitVec.ofInt_natCast, BitVec.toNat_xor, BitVec.toNat_ofNat, Nat.mod_eq_of_lt ha, Nat.mod_eq_of_lt hb]
  exact wrapN hk (Nat.xor_lt_two_pow ha hb)
theorem shlN {k : IntKind} (hk : k.signed = false) (a s : Nat) : k.wrap ((a : Int) * 2 ^ min (s : Int).toNat k.bits) = ((a <<< s % 2 ^ k.bits : Nat) : Int) := by
  have e : (a : Int) * 2 ^ min (s : Int).toNat k.bits = ((a * 2 ^ min s k.bits : Nat) : Int) := by simp
  rw [e, wrapM hk, Nat.shiftLeft_eq]
  congr 1
  rcases Nat.le_total s k.bits with h | h
  · rw [Nat.min_eq_left h]
  · rw [Nat.min_eq_right h]
    obtain ⟨m, rfl⟩ := Nat.exists_eq_add_of_le h
    rw [Nat.pow_add, Nat.mul_mod_left, ← Nat.mul_assoc, Nat.mul_right_comm, Nat.mul_mod_left]
theorem shrN {k : IntKind} {a : Nat} (ha : a < 2 ^ k.bits) (s : Nat) : (a : Int).fdiv (2 ^ min (s : Int).toNat k.bits) = ((a >>> s : Nat) : Int) := by
  have e : (2 : Int) ^ min (s : Int).toNat k.bits = ((2 ^ min s k.bits : Nat) : Int) := by simp
  rw [e, Int.fdiv_eq_ediv_of_nonneg _ (Int.natCast_nonneg _), ← Int.natCast_ediv, Nat.shiftRight_eq_div_pow]
  congr 1
  rcases Nat.le_total s k.bits with h | h
  · rw [Nat.min_eq_left h]
  · rw [Nat.min_eq_right h, Nat.div_eq_of_lt ha, Nat.div_eq_of_lt (Nat.lt_of_lt_of_le ha (Nat.pow_le_pow_right (by decide) h))]
section
variable {P : Program} {ops : Array Oper} {Q : Exit → Act → World → Prop} {rest : List Oper} {n d ty : Nat} {pos : String} {af : Array Edge} {ρ : Env} {ds : List Deferred} {w w' : World} {g : Gh} {L : List Asn} {x y : Operand} {T U a b s : Nat} {k2 : IntKind}
theorem xan_u8 (hx : ev n ρ x = some (.int .u8 (a : Nat))) (hy : ev n ρ y = some (.int .u8 (b : Nat))) (ha : a < 256) (hb : b < 256)
    (h : wpList P ops Q rest (mk n (upd ρ d (.int .u8 ((a &&& b : Nat) : Int))) ds) w) : wpList P ops Q (⟨some d, .binOp .and T x y U, ty, pos, af, none⟩ :: rest) (mk n ρ ds) w := by
  refine xan hx hy ?_; rw [andN (k := .u8) rfl ha hb]; exact h
theorem xor_u8 (hx : ev n ρ x = some (.int .u8 (a : Nat))) (hy : ev n ρ y = some (.int .u8 (b : Nat))) (ha : a < 256) (hb : b < 256)
    (h : wpList P ops Q rest (mk n (upd ρ d (.int .u8 ((a ||| b : Nat) : Int))) ds) w) : wpList P ops Q (⟨some d, .binOp .or T x y U, ty, pos, af, none⟩ :: rest) (mk n ρ ds) w := by
  refine xorr hx hy ?_; rw [orN (k := .u8) rfl ha hb]; exact h
theorem xsl_u8 (hx : ev n ρ x = some (.int .u8 (a : Nat))) (hy : ev n ρ y = some (.int k2 (s : Nat)))
    (h : wpList P ops Q rest (mk n (upd ρ d (.int .u8 ((a <<< s % 256 : Nat) : Int))) ds) w) : wpList P ops Q (⟨some d, .binOp .shl T x y U, ty, pos, af, none⟩ :: rest) (mk n ρ ds) w := by
  refine xshl hx hy (Int.natCast_nonneg _) ?_; rw [shlN (k := .u8) rfl]; exact h
theorem xsr_u8 (hx : ev n ρ x = some (.int .u8 (a : Nat))) (hy : ev n ρ y = some (.int k2 (s : Nat))) (ha : a < 256)
    (h : wpList P ops Q rest (mk n (upd ρ d (.int .u8 ((a >>> s : Nat) : Int))) ds) w) : wpList P ops Q (⟨some d, .binOp .shr T x y U, ty, pos, af, none⟩ :: rest) (mk n ρ ds) w := by
  refine xshr hx hy (Int.natCast_nonneg _) ?_; rw [shrN (k := .u8) ha]; exact h
theorem xcv_u8 {S : Nat} [TInt P S k2] [TInt P T .u8] (hx : ev n ρ x = some (.int k2 (a : Nat)))
    (h : wpList P ops Q rest (mk n (upd ρ d (.int .u8 ((a % 256 : Nat) : Int))) ds) w) : wpList P ops Q (⟨some d, .convert S T x, ty, pos, af, none⟩ :: rest) (mk n ρ ds) w := by
  refine xcv hx ?_; rw [wrapM (k := .u8) rfl]; exact h
theorem xadn_u8 (hx : ev n ρ x = some (.int .u8 (a : Nat))) (hy : ev n ρ y = some (.int .u8 (b : Nat))) (hm : a + b < 256)
    (h : wpList P ops Q rest (mk n (upd ρ d (.int .u8 ((a + b : Nat) : Int))) ds) w) : wpList P ops Q (⟨some d, .binOp .add T x y U, ty, pos, af, none⟩ :: rest) (mk n ρ ds) w := by
  refine xad hx hy ?_; rw [← Int.natCast_add, wrapN (k := .u8) rfl hm]; exact h
theorem xsbn_u8 (hx : ev n ρ x = some (.int .u8 (a : Nat))) (hy : ev n ρ y = some (.int .u8 (b : Nat))) (hm : b ≤ a) (ha : a < 256)
    (h : wpList P ops Q rest (mk n (upd ρ d (.int .u8 ((a - b : Nat) : Int))) ds) w) : wpList P ops Q (⟨some d, .binOp .sub T x y U, ty, pos, af, none⟩ :: rest) (mk n ρ ds) w := by
  refine xsb hx hy ?_; rw [← Int.ofNat_sub hm, wrapN (k := .u8) rfl (show a - b < 256 by omega)]; exact h
theorem xan_u32 (hx : ev n ρ x = some (.int .u32 (a : Nat))) (hy : ev n ρ y = some (.int .u32 (b : Nat))) (ha : a < 4294967296) (hb : b < 4294967296)
    (h : wpList P ops Q rest (mk n (upd ρ d (.int .u32 ((a &&& b : Nat) : Int))) ds) w) : wpList P ops Q (⟨some d, .binOp .and T x y U, ty, pos, af, none⟩ :: rest) (mk n ρ ds) w := by
  refine xan hx hy ?_; rw [andN (k := .u32) rfl ha hb]; exact h
theorem xxo_u32 (hx : ev n ρ x = some (.int .u32 (a : Nat))) (hy : ev n ρ y = some (.int .u32 (b : Nat))) (ha : a < 4294967296) (hb : b < 4294967296)
    (h : wpList P ops Q rest (mk n (upd ρ d (.int .u32 ((a ^^^ b : Nat) : Int))) ds) w) : wpList P ops Q (⟨some d, .binOp .xor T x y U, ty, pos, af, none⟩ :: rest) (mk n ρ ds) w := by
  refine xxo hx hy ?_; rw [xorN (k := .u32) rfl ha hb]; exact h
theorem xsr_u32 (hx : ev n ρ x = some (.int .u32 (a : Nat))) (hy : ev n ρ y = some (.int k2 (s : Nat))) (ha : a < 4294967296)
    (h : wpList P ops Q rest (mk n (upd ρ d (.int .u32 ((a >>> s : Nat) : Int))) ds) w) : wpList P ops Q (⟨some d, .binOp .shr T x y U, ty, pos, af, none⟩ :: rest) (mk n ρ ds) w := by
  refine xshr hx hy (Int.natCast_nonneg _) ?_; rw [shrN (k := .u32) ha]; exact h
theorem xxn_u32 (hx : ev n ρ x = some (.int .u32 (a : Nat))) (ha : a < 4294967296)
    (h : wpList P ops Q rest (mk n (upd ρ d (.int .u32 ((4294967295 - a : Nat) : Int))) ds) w) : wpList P ops Q (⟨some d, .unOp .xor T x, ty, pos, af, none⟩ :: rest) (mk n ρ ds) w := by
  refine xxn hx ?_
  have e : bitsI .xor .u32 (if IntKind.u32.signed then -1 else IntKind.u32.max) (a : Int) = ((4294967295 - a : Nat) : Int) := by
    have e1 : BitVec.ofInt IntKind.u32.bits (if IntKind.u32.signed then -1 else IntKind.u32.max) = BitVec.allOnes IntKind.u32.bits := by decide
    simp only [bitsI, e1, BitVec.allOnes_xor, BitVec.toNat_not, BitVec.ofInt_natCast, BitVec.toNat_ofNat]
    have e2 : a % 2 ^ IntKind.u32.bits = a := Nat.mod_eq_of_lt ha
    rw [e2]
    exact wrapN (k := .u32) rfl (by show 4294967296 - 1 - a < 4294967296; omega)
  rw [e]; exact h
theorem xan_u64 (hx : ev n ρ x = some (.int .u64 (a : Nat))) (hy : ev n ρ y = some (.int .u64 (b : Nat))) (ha : a < 18446744073709551616) (hb : b < 18446744073709551616)
    (h : wpList P ops Q rest (mk n (upd ρ d (.int .u64 ((a &&& b : Nat) : Int))) ds) w) : wpList P ops Q (⟨some d, .binOp .and T x y U, ty, pos, af, none⟩ :: rest) (mk n ρ ds) w := by
  refine xan hx hy ?_; rw [andN (k := .u64) rfl ha hb]; exact h
theorem xor_u64 (hx : ev n ρ x = some (.int .u64 (a : Nat))) (hy : ev n ρ y = some (.int .u64 (b : Nat))) (ha : a < 18446744073709551616) (hb : b < 18446744073709551616)
    (h : wpList P ops Q rest (mk n (upd ρ d (.int .u64 ((a ||| b : Nat) : Int))) ds) w) : wpList P ops Q (⟨some d, .binOp .or T x y U, ty, pos, af, none⟩ :: rest) (mk n ρ ds) w := by
  refine xorr hx hy ?_; rw [orN (k := .u64) rfl ha hb]; exact h
theorem xsl_u64 (hx : ev n ρ x = some (.int .u64 (a : Nat))) (hy : ev n ρ y = some (.int k2 (s : Nat)))
    (h : wpList P ops Q rest (mk n (upd ρ d (.int .u64 ((a <<< s % 18446744073709551616 : Nat) : Int))) ds) w) : wpList P ops Q (⟨some d, .binOp .shl T x y U, ty, pos, af, none⟩ :: rest) (mk n ρ ds) w := by
  refine xshl hx hy (Int.natCast_nonneg _) ?_; rw [shlN (k := .u64) rfl]; exact h
theorem xsr_u64 (hx : ev n ρ x = some (.int .u64 (a : Nat))) (hy : ev n ρ y = some (.int k2 (s : Nat))) (ha : a < 18446744073709551616)
    (h : wpList P ops Q rest (mk n (upd ρ d (.int .u64 ((a >>> s : Nat) : Int))) ds) w) : wpList P ops Q (⟨some d, .binOp .shr T x y U, ty, pos, af, none⟩ :: rest) (mk n ρ ds) w := by
  refine xshr hx hy (Int.natCast_nonneg _) ?_; rw [shrN (k := .u64) ha]; exact h
theorem xadm_u64 (hx : ev n ρ x = some (.int .u64 (a : Nat))) (hy : ev n ρ y = some (.int .u64 (b : Nat)))
    (h : wpList P ops Q rest (mk n (upd ρ d (.int .u64 (((a + b) % 18446744073709551616 : Nat) : Int))) ds) w) : wpList P ops Q (⟨some d, .binOp .add T x y U, ty, pos, af, none⟩ :: rest) (mk n ρ ds) w := by
  refine xad hx hy ?_; rw [← Int.natCast_add, wrapM (k := .u64) rfl]; exact h
theorem xmln_u64 (hx : ev n ρ x = some (.int .u64 (a : Nat))) (hy : ev n ρ y = some (.int .u64 (b : Nat))) (hm : a * b < 18446744073709551616)
    (h : wpList P ops Q rest (mk n (upd ρ d (.int .u64 ((a * b : Nat) : Int))) ds) w) : wpList P ops Q (⟨some d, .binOp .mul T x y U, ty, pos, af, none⟩ :: rest) (mk n ρ ds) w := by
  refine xml hx hy ?_; rw [← Int.natCast_mul, wrapN (k := .u64) rfl hm]; exact h
theorem xmlm_u64 (hx : ev n ρ x = some (.int .u64 (a : Nat))) (hy : ev n ρ y = some (.int .u64 (b : Nat)))
    (h : wpList P ops Q rest (mk n (upd ρ d (.int .u64 ((a * b % 18446744073709551616 : Nat) : Int))) ds) w) : wpList P ops Q (⟨some d, .binOp .mul T x y U, ty, pos, af, none⟩ :: rest) (mk n ρ ds) w := by
  refine xml hx hy ?_; rw [← Int.natCast_mul, wrapM (k := .u64) rfl]; exact h
theorem xadn_u64 (hx : ev n ρ x = some (.int .u64 (a : Nat))) (hy : ev n ρ y = some (.int .u64 (b : Nat))) (hm : a + b < 18446744073709551616)
    (h : wpList P ops Q rest (mk n (upd ρ d (.int .u64 ((a + b : Nat) : Int))) ds) w) : wpList P ops Q (⟨some d, .binOp .add T x y U, ty, pos, af, none⟩ :: rest) (mk n ρ ds) w := by
  refine xad hx hy ?_; rw [← Int.natCast_add, wrapN (k := .u64) rfl hm]; exact h
theorem xsbn_u64 (hx : ev n ρ x = some (.int .u64 (a : Nat))) (hy : ev n ρ y = some (.int .u64 (b : Nat))) (hm : b ≤ a) (ha : a < 18446744073709551616)
    (h : wpList P ops Q rest (mk n (upd ρ d (.int .u64 ((a - b : Nat) : Int))) ds) w) : wpList P ops Q (⟨some d, .binOp .sub T x y U, ty, pos, af, none⟩ :: rest) (mk n ρ ds) w := by
  refine xsb hx hy ?_; rw [← Int.ofNat_sub hm, wrapN (k := .u64) rfl (show a - b < 18446744073709551616 by omega)]; exact h
theorem xanm_u64 (j : Nat) (hx : ev n ρ x = some (.int .u64 (a : Nat))) (hy : ev n ρ y = some (.int .u64 ((2 ^ j - 1 : Nat) : Int))) (ha : a < 18446744073709551616) (hb : 2 ^ j - 1 < 18446744073709551616)
    (h : wpList P ops Q rest (mk n (upd ρ d (.int .u64 ((a % 2 ^ j : Nat) : Int))) ds) w) : wpList P ops Q (⟨some d, .binOp .and T x y U, ty, pos, af, none⟩ :: rest) (mk n ρ ds) w := by
  refine xan_u64 hx hy ha hb ?_; rw [Nat.and_two_pow_sub_one_eq_mod]; exact h
theorem xngn_u64 (hx : ev n ρ x = some (.int .u64 (a : Nat))) (h0 : 0 < a) (ha : a < 18446744073709551616)
    (h : wpList P ops Q rest (mk n (upd ρ d (.int .u64 ((18446744073709551616 - a : Nat) : Int))) ds) w) : wpList P ops Q (⟨some d, .unOp .neg T x, ty, pos, af, none⟩ :: rest) (mk n ρ ds) w := by
  refine xng hx ?_
  have e : IntKind.u64.wrap (0 - (a : Int)) = ((18446744073709551616 - a : Nat) : Int) := by
    simp only [IntKind.wrap, IntKind.signed, IntKind.bits]; simp; omega
  rw [e]; exact h
theorem xqn_u8 (hx : ev n ρ x = some (.int .u8 (a : Nat))) (hy : ev n ρ y = some (.int .u8 (b : Nat))) (ha : a ≤ 255) (hb : b ≠ 0)
    (h : wpList P ops Q rest (mk n (upd ρ d (.int .u8 ((a / b : Nat) : Int))) ds) w) : wpList P ops Q (⟨some d, .binOp .quo T x y U, ty, pos, af, none⟩ :: rest) (mk n ρ ds) w := by
  refine xqu hx hy (by omega) ?_
  have e : IntKind.u8.wrap ((a : Int).tdiv b) = ((a / b : Nat) : Int) := by
    rw [show (a : Int).tdiv b = ((a / b : Nat) : Int) from rfl]
    have : a / b ≤ 255 := Nat.le_trans (Nat.div_le_self _ _) ha
    generalize a / b = q at this ⊢
    simp only [IntKind.wrap, IntKind.signed, IntKind.bits]; simp; omega
  rw [e]; exact h
theorem xrn_u8 (hx : ev n ρ x = some (.int .u8 (a : Nat))) (hy : ev n ρ y = some (.int .u8 (b : Nat))) (hb : b ≠ 0)
    (h : wpList P ops Q rest (mk n (upd ρ d (.int .u8 ((a % b : Nat) : Int))) ds) w) : wpList P ops Q (⟨some d, .binOp .rem T x y U, ty, pos, af, none⟩ :: rest) (mk n ρ ds) w := by
  refine xrm hx hy (by omega) ?_
  rw [show (a : Int).tmod b = ((a % b : Nat) : Int) from rfl]; exact h
theorem xqn_i64 (hx : ev n ρ x = some (.int .i64 (a : Nat))) (hy : ev n ρ y = some (.int .i64 (b : Nat))) (ha : a ≤ 9223372036854775807) (hb : b ≠ 0)
    (h : wpList P ops Q rest (mk n (upd ρ d (.int .i64 ((a / b : Nat) : Int))) ds) w) : wpList P ops Q (⟨some d, .binOp .quo T x y U, ty, pos, af, none⟩ :: rest) (mk n ρ ds) w := by
  refine xqu hx hy (by omega) ?_
  have e : IntKind.i64.wrap ((a : Int).tdiv b) = ((a / b : Nat) : Int) := by
    rw [show (a : Int).tdiv b = ((a / b : Nat) : Int) from rfl]
    have : a / b ≤ 9223372036854775807 := Nat.le_trans (Nat.div_le_self _ _) ha
    generalize a / b = q at this ⊢
    simp only [IntKind.wrap, IntKind.signed, IntKind.bits]; simp; omega
  rw [e]; exact h
theorem xrn_i64 (hx : ev n ρ x = some (.int .i64 (a : Nat))) (hy : ev n ρ y = some (.int .i64 (b : Nat))) (hb : b ≠ 0)
    (h : wpList P ops Q rest (mk n (upd ρ d (.int .i64 ((a % b : Nat) : Int))) ds) w) : wpList P ops Q (⟨some d, .binOp .rem T x y U, ty, pos, af, none⟩ :: rest) (mk n ρ ds) w := by
  refine xrm hx hy (by omega) ?_
  rw [show (a : Int).tmod b = ((a % b : Nat) : Int) from rfl]; exact h
theorem xngi {i : Int} (hx : ev n ρ x = some (.int .i64 i)) (hi : -9223372036854775807 ≤ i ∧ i ≤ 9223372036854775807)
    (h : wpList P ops Q rest (mk n (upd ρ d (.int .i64 (-i))) ds) w) : wpList P ops Q (⟨some d, .unOp .neg T x, ty, pos, af, none⟩ :: rest) (mk n ρ ds) w := by
  refine xng hx ?_
  have e : IntKind.i64.wrap (0 - i) = -i := by rw [Int.zero_sub]; exact wi64 (by omega)
  rw [e]; exact h
end
end Go.Proofs.YtegllbmkkfnajaaGreatDoor
end
section
namespace Go.Proofs.YtegllbmkkfnajaaGreatDoor
open Go Go.RowKit
theorem flat_get {α : Type} {f : α → List Value} {sz : Nat} (hf : ∀ x, (f x).length = sz) : ∀ {l : List α} {j : Nat} {x : α}, l[j]? = some x → ((l.flatMap f).drop (j * sz)).take sz = f x
  | [], j, x, h => by simp at h
  | y :: l, 0, x, h => by
    simp at h; subst h
    simp only [Nat.zero_mul, List.drop_zero, List.flatMap_cons]
    rw [List.take_append_of_le_length (by rw [hf]; exact Nat.le_refl _), List.take_of_length_le (by rw [hf]; exact Nat.le_refl _)]
  | y :: l, j + 1, x, h => by
    simp only [List.getElem?_cons_succ] at h
    have e : (j + 1) * sz = (f y).length + j * sz := by rw [hf, Nat.add_mul, Nat.one_mul, Nat.add_comm]
    simp only [List.flatMap_cons]
    rw [e, List.drop_append]
    simp only [Nat.add_sub_cancel_left, List.drop_of_length_le (Nat.le_add_right _ _), List.nil_append]
    exact flat_get hf h
theorem flat_len {α : Type} {f : α → List Value} {sz : Nat} (hf : ∀ x, (f x).length = sz) (l : List α) : (l.flatMap f).length = l.length * sz := by
  induction l with
  | nil => simp
  | cons x l ih => simp [hf, ih, Nat.add_mul, Nat.add_comm]
section
variable {P : Program} {ops : Array Oper} {Q : Exit → Act → World → Prop} {rest : List Oper} {n d ty : Nat} {pos : String} {af : Array Edge} {ρ : Env} {ds : List Deferred} {w w' : World} {g : Gh} {L M : List Asn}
theorem xi1r {x y : Operand} {T E l c j : Nat} {k : IntKind} {i : Int} {A : Asn} {ao : Option Addr} {cells : List Value} {v : Value} [TSl P T E 1] (hr : Rd A ao cells) (hv : cells[j]? = some v) (hj : j < l) (hx : ev n ρ x = some (.slice ao l c)) (hy : ev n ρ y = some (.int k i)) (hi : i = (j : Nat))
    (h : ∀ b o, A.cell ⟨b, o, none⟩ v → wpList P ops Q rest (mk n (upd ρ d (.pointer (some ⟨b, o, none⟩))) ds) w) : wpList P ops Q (⟨some d, .indexAddr T x y, ty, pos, af, none⟩ :: rest) (mk n ρ ds) w := by
  obtain ⟨b, off, rfl, hc⟩ := hr.some (by intro e; subst e; simp at hv)
  exact xi1 hx hy hi hj (h _ _ (hc j v hv))
theorem xiar {x y : Operand} {T E sz l c j : Nat} {k : IntKind} {i : Int} {A : Asn} {ao : Option Addr} {cells vs : List Value} [TSl P T E sz] (hr : Rd A ao cells) (hv : (cells.drop (j * sz)).take sz = vs) (hn : vs ≠ []) (hj : j < l) (hx : ev n ρ x = some (.slice ao l c)) (hy : ev n ρ y = some (.int k i)) (hi : i = (j : Nat))
    (h : ∀ b o, Cells A b o vs → wpList P ops Q rest (mk n (upd ρ d (.pointer (some ⟨b, o, none⟩))) ds) w) : wpList P ops Q (⟨some d, .indexAddr T x y, ty, pos, af, none⟩ :: rest) (mk n ρ ds) w := by
  obtain ⟨b, off, rfl, hc⟩ := hr.some (by intro e; subst e; simp at hv; exact hn hv)
  refine xia hx hy hi hj (h _ _ ?_)
  subst hv; exact hc.sub _ _
theorem xio {x y : Operand} {T E U sz l c cap nn j : Nat} {kd : IntKind} {i : Int} {ao : Option Addr} {cells : List Value} [TSl P T E sz] (k : Nat) (H : St g w L) (hk : nthA L k = some (own ao cap U sz nn cells)) (hj : j < l) (hn : j < nn) (hx : ev n ρ x = some (.slice ao l c)) (hy : ev n ρ y = some (.int kd i)) (hi : i = (j : Nat))
    (h : ∀ b o, ao = some ⟨b, o, none⟩ → wpList P ops Q rest (mk n (upd ρ d (.pointer (some ⟨b, o + j * sz, none⟩))) ds) w) : wpList P ops Q (⟨some d, .indexAddr T x y, ty, pos, af, none⟩ :: rest) (mk n ρ ds) w := by
  obtain ⟨F, h1, h2, h3⟩ := H.nth hk
  rcases h3 with ⟨h3, _⟩ | ⟨b, off, c', fr, e, _⟩
  · omega
  · subst e; exact xia hx hy hi hj (h b off rfl)
theorem own_get {ao : Option Addr} {cap E sz nn b off o q : Nat} {cells : List Value} {v : Value} (ha : ao = some ⟨b, off, none⟩) (ho : o = off + q) (hv : cells[q]? = some v) : (own ao cap E sz nn cells).cell ⟨b, o, none⟩ v := by
  subst ho; exact own_cells ha q v hv
theorem own_put {ao : Option Addr} {cap E sz nn b off q : Nat} {cells vs : List Value} (H : St g w (own ao cap E sz nn cells :: L)) (ha : ao = some ⟨b, off, none⟩) (hq : q + vs.length ≤ cells.length) (hv0 : vs ≠ []) (h1 : ∀ v ∈ vs, v.oneCell' = true) :
    ∃ w', (storeCells ⟨b, off + q, none⟩ vs).run P w = .ok () w' ∧ St g w' (own ao cap E sz nn (cells.take q ++ vs ++ cells.drop (q + vs.length)) :: L) := by
  obtain ⟨F, hF⟩ := H.nth (k := 0) rfl
  obtain ⟨hF1, hF2, hF3⟩ := hF
  have hvl : 0 < vs.length := List.length_pos_iff.2 hv0
  rcases hF3 with ⟨h3, _⟩ | ⟨b', off', c, fr, e, hFb, hh, hu, hsize, hcells⟩
  · have : nn = 0 := by omega
    subst this; simp at hF1; subst hF1; simp at hq; exact absurd hq.2 hv0
  · subst ha; simp at e; obtain ⟨rfl, rfl⟩ := e
    have hnc : nn * sz ≤ cap * sz := Nat.mul_le_mul_right _ hF2
    obtain ⟨w', hr, hb', hsz', hk, ht, ho, hout⟩ := run_storeCells (P := P) (off := off + q) vs 0 c w hh hu (by omega) h1
    refine ⟨w', hr, H.turn (b := b) (fun G hG => ?_) ⟨?_, hF2, .inr ⟨b, off, _, fr, rfl, fun _ => Iff.rfl, hb', ?_, ?_, ?_⟩⟩ hsz' hk ht ho hout⟩
    · obtain ⟨_, _, hG3⟩ := hG
      rcases hG3 with ⟨h0, _⟩ | ⟨b2, off2, c2, fr2, e2, hFb2, _⟩
      · subst h0; simp at hnc; omega
      · simp at e2; obtain ⟨rfl, rfl⟩ := e2; exact (hFb2 _).2 rfl
    · simp only [List.length_append, List.length_take, List.length_drop]; omega
    · rcases hu with hu | hu
      · exact .inl hu
      · refine .inr ?_
        simp only [List.size_toArray, List.length_append, List.length_take, List.length_drop, Array.length_toList]; omega
    · simp only [List.size_toArray, List.length_append, List.length_take, List.length_drop, Array.length_toList]; omega
    · apply List.ext_getElem?
      intro j
      have hc : ∀ j : Nat, ((c.toList.drop off).take (nn * sz))[j]? = cells[j]? := fun j => by rw [hcells]
      simp only [List.getElem?_take, List.getElem?_drop, List.getElem?_append, List.length_append, List.length_take, Array.length_toList, Nat.add_zero] at hc ⊢
      have e2 : min (off + q) c.size = off + q := by omega
      have e3 : min q cells.length = q := by omega
      rw [e2, e3]
      have hcj := hc j
      by_cases a0 : j < nn * sz
      · rw [if_pos a0]; rw [if_pos a0] at hcj
        by_cases a1 : j < q
        · rw [if_pos (by omega), if_pos (by omega), if_pos (by omega), if_pos (by omega), if_pos (by omega), if_pos a1]; exact hcj
        · by_cases a2 : j < q + vs.length
          · rw [if_pos (by omega), if_neg (by omega), if_pos (by omega), if_neg (by omega)]; congr 1; omega
          · rw [if_neg (by omega), if_neg (by omega), ← hc]
            rw [show off + q + vs.length + (off + j - (off + q + vs.length)) = off + j by omega, show q + vs.length + (j - (q + vs.length)) = j by omega]
            rw [if_pos a0]
      · rw [if_neg a0, if_neg (by omega), List.getElem?_eq_none (by omega)]
theorem set_eq {cells : List Value} {q : Nat} {v : Value} (h : q < cells.length) : cells.take q ++ [v] ++ cells.drop (q + [v].length) = cells.set q v := by
  rw [List.set_eq_take_append_cons_drop, if_pos h]; simp
theorem xso {x y : Operand} {T U b off o cap sz nn : Nat} {v : Value} {ao : Option Addr} {cells : List Value} [TSc P T] (k q : Nat) (H : St g w L) (ha : ao = some ⟨b, off, none⟩) (ho : o = off + q) (hq : q < cells.length) (hx : ev n ρ x = some (.pointer (some ⟨b, o, none⟩))) (hy : ev n ρ y = some v) (hk : takeAt k L = some (own ao cap U sz nn cells, M)) (hv : v.oneCell' = true)
    (h : ∀ w', St g w' (own ao cap U sz nn (cells.set q v) :: M) → wpList P ops Q rest (mk n ρ ds) w') : wpList P ops Q (⟨none, .store T x y, ty, pos, af, none⟩ :: rest) (mk n ρ ds) w := by
  have H1 := H.front k hk
  subst ho
  obtain ⟨w', hr, hS⟩ := own_put (P := P) (q := q) (vs := [v]) H1 ha (by show q + 1 ≤ cells.length; omega) (by simp) (by simpa using hv)
  rw [set_eq hq] at hS
  refine st_skip ?_ (h _ hS)
  have h0 : v.cells = #[v] := by cases v <;> simp [Value.oneCell'] at hv <;> rfl
  simp only [execOp, mk_eval hx, mk_eval hy, Instr.storeAt, Instr.sureAddr]
  simp [asAddr, storeVar, TSc.size (P := P) (T := T), h0, hr]
theorem xsoa {x y : Operand} {T U b off o cap sz nn m : Nat} {vs : List Value} {ao : Option Addr} {cells : List Value} [TAg P T m] (k q : Nat) (H : St g w L) (ha : ao = some ⟨b, off, none⟩) (ho : o = off + q) (hq : q + vs.length ≤ cells.length) (hv0 : vs ≠ []) (hm : Nat.beq vs.length m = true) (h1 : ∀ v ∈ vs, v.oneCell' = true) (hx : ev n ρ x = some (.pointer (some ⟨b, o, none⟩))) (hy : ev n ρ y = some (.agg vs.toArray)) (hk : takeAt k L = some (own ao cap U sz nn cells, M))
    (h : ∀ w', St g w' (own ao cap U sz nn (cells.take q ++ vs ++ cells.drop (q + vs.length)) :: M) → wpList P ops Q rest (mk n ρ ds) w') : wpList P ops Q (⟨none, .store T x y, ty, pos, af, none⟩ :: rest) (mk n ρ ds) w := by
  have H1 := H.front k hk
  have hm := Nat.eq_of_beq_eq_true hm
  subst ho
  obtain ⟨w', hr, hS⟩ := own_put (P := P) (q := q) (vs := vs) H1 ha hq hv0 h1
  refine st_skip ?_ (h _ hS)
  simp only [execOp, mk_eval hx, mk_eval hy, Instr.storeAt, Instr.sureAddr]
  simp [asAddr, storeVar, TAg.size (P := P) (T := T), Value.cells, hm, hr]
theorem xsta {x y : Operand} {T U b off m : Nat} {vs c c' : List Value} [TAg P T m] (k : Nat) (H : St g w L) (hx : ev n ρ x = some (.pointer (some ⟨b, off, none⟩))) (hy : ev n ρ y = some (.agg vs.toArray)) (hk : takeAt k L = some (blk b c U, M)) (hp : placeV c off vs = some c') (hm : Nat.beq vs.length m = true) (h1 : vs.all (·.oneCell') = true)
    (h : ∀ w', St g w' (blk b c' U :: M) → wpList P ops Q rest (mk n ρ ds) w') : wpList P ops Q (⟨none, .store T x y, ty, pos, af, none⟩ :: rest) (mk n ρ ds) w := by
  have H1 := H.front k hk
  have hm := Nat.eq_of_beq_eq_true hm
  obtain ⟨F, hF⟩ := H1.nth (k := 0) rfl
  obtain ⟨e, hl⟩ := placeV_eq hp
  by_cases hv0 : vs = []
  · subst hv0
    have hp' : c' = c := by rw [e]; simp
    refine st_skip (w' := w) ?_ (h _ (by rw [hp']; exact H1))
    simp at hm
    simp only [execOp, mk_eval hx, mk_eval hy, Instr.storeAt, Instr.sureAddr]
    simp [asAddr, storeVar, TAg.size (P := P) (T := T), Value.cells, ← hm, storeCells]
  · have hl := hl hv0
    obtain ⟨w', hr, hb', hsz', hk', ht, ho, hout⟩ := run_storeCells (P := P) (off := off) vs 0 c.toArray w hF.2 (.inl (Nat.le_refl _)) (by simpa using hl) (fun v hv => (List.all_eq_true.1 h1) v hv)
    refine st_skip (w' := w') ?_ (h _ (H1.setObj (o' := .cells c'.toArray U (0, 0)) hsz' ?_ hk' ht ho hout))
    · simp only [execOp, mk_eval hx, mk_eval hy, Instr.storeAt, Instr.sureAddr]
      simp [asAddr, storeVar, TAg.size (P := P) (T := T), Value.cells, hm, hr]
    · rw [hb', e]; simp
end
end Go.Proofs.YtegllbmkkfnajaaGreatDoor
end
