/-
  PROVED: for every input taximeterlaw19.VaultNobody returns true, and its arguments read as they did (the tied card, 'card_holds').
  CONDITIONS: those of the row alone; the one listed variable, math/bits.deBruijn64tab, starts as the program's text lays it, which the card ties.
-/
import Derived.Test.YtegllbmkkfnajaaGreatDoorM5
import Derived.WalkKit
import Derived.ProofKit
import Derived.OpenShut
import Derived.ReadAgain
import Derived.ChangeOld
import Derived.ChangeReads
import Derived.Lib.LaidTab
import Derived.Test.YtegllbmkkfnajaaGreatDoorCards
import Derived.Test.YtegllbmkkfnajaaGreatDoorTie
import Derived.Deep.DeepHandedRow
import Derived.ChangeMaps5
import Derived.SevenTiedAt
import Derived.LaidMore
import Derived.Stop.Joined
section
namespace Go.Proofs.YtegllbmkkfnajaaGreatDoor
open Go Go.Proofs
set_option maxRecDepth 20000
theorem recDec_ok {b : List UInt8} {r : Rec} (h : recDec b = .ok r) : r.ok := by
  unfold recDec at h
  split at h
  · cases h
  · split at h
    · cases h
    · split at h
      · cases h
      · cases h; exact decAll_ok b
theorem segTake_ok : ∀ (bd : List (List UInt8)) (s : TkS), ∀ r ∈ (segTake s bd).1, r.ok
  | [], s => by simp [segTake]
  | b :: l, s => by
    cases ht : (takeS s b).1 with
    | none => rw [segTake_none ht]; simp
    | some r0 =>
      rw [segTake_some ht]
      intro r hr
      rcases List.mem_cons.1 hr with rfl | hr
      · unfold takeS at ht
        split at ht
        · cases ht
        · rename_i q hq
          split at ht
          · cases ht
          · cases ht; exact recDec_ok hq
      · exact segTake_ok l _ r hr
theorem segRecs_ok : ∀ (bl : List (List UInt8)) (s : TkS), ∀ r ∈ segRecs s bl, r.ok
  | [], s => by simp [segRecs]
  | b :: l, s => by
    intro r hr
    simp only [segRecs, List.mem_append] at hr
    rcases hr with hr | hr
    · exact segTake_ok _ _ r hr
    · exact segRecs_ok l _ r hr
def accSz (a : Acct) : Nat := a.leases.length + a.closed.length
def Ledg.sz (l : Ledg) : Nat := l.l.length + (l.l.map accSz).sum
theorem sum_at {l : List Acct} {a : Acct} (h : a ∈ l) : accSz a ≤ (l.map accSz).sum := by
  induction l with
  | nil => cases h
  | cons x l ih =>
    simp only [List.map_cons, List.sum_cons]
    rcases List.mem_cons.1 h with rfl | h
    · omega
    · have := ih h; omega
theorem Ledg.sm_of {l : Ledg} (h : l.sz < 1099511627776) : l.sm := by
  unfold Ledg.sz at h
  refine ⟨by omega, fun a ha => ?_⟩
  have := sum_at ha
  have h2 : accSz a = a.leases.length + a.closed.length := rfl
  omega
theorem acctApply_sz (a : Acct) (r : Rec) : accSz (acctApply a r) ≤ accSz a + 1 := by
  unfold accSz acctApply
  split
  · simp
  · split
    · simp
    · split
      · simp; omega
      · split
        · simp only; have := List.length_eraseIdx_le a.leases (findI (isId r.lease) a.leases).toNat; omega
        · split
          · simp; omega
          · simp
theorem sum_set : ∀ (l : List Acct) (k : Nat) (a b : Acct), l[k]? = some b → ((l.set k a).map accSz).sum + accSz b = (l.map accSz).sum + accSz a
  | [], k, a, b, h => by simp at h
  | x :: l, 0, a, b, h => by
    simp at h; subst h
    simp only [List.set_cons_zero, List.map_cons, List.sum_cons]; omega
  | x :: l, k + 1, a, b, h => by
    have := sum_set l k a b (by simpa using h)
    simp only [List.set_cons_succ, List.map_cons, List.sum_cons]; omega
theorem come_sz (l : Ledg) (r : Rec) : (ledgerCome l r).sz ≤ l.sz + 2 := by
  have h1 := come_len l r
  have h2 := sum_set (roomFor l.l r.tenant) (placeK l.l r.tenant) (acctApply (l.find r.tenant) r) _ (roomFor_at l r.tenant)
  have h3 := acctApply_sz (l.find r.tenant) r
  have h4 : ((roomFor l.l r.tenant).map accSz).sum = (l.l.map accSz).sum := by
    unfold roomFor
    split
    · rfl
    · conv => rhs; rw [← List.take_append_drop (placeK l.l r.tenant) l.l]
      simp only [List.map_append, List.map_cons, List.sum_append, List.sum_cons]
      show _ + (0 + _) = _
      omega
  unfold Ledg.sz
  unfold ledgerCome at h1 ⊢
  simp only at h1 ⊢
  omega
theorem opensR_ok {f : Nat → List Rec} {t : List UInt8} (hf : ∀ s, s < 18446744073709551616 → ∀ r ∈ f s, r.ok) : ∀ (ls : List Lease) (s : Nat), s < 18446744073709551616 → (∀ x ∈ ls, x.ok) → ∀ r ∈ opensR f t s ls, r.ok
  | [], s, hs, _ => hf s hs
  | o :: ls, s, hs, hl => by
    intro r hr
    simp only [opensR, List.mem_cons] at hr
    have ho := hl o (by simp)
    rcases hr with rfl | hr
    · exact ⟨Nat.mod_lt _ (by decide), ho.1, ho.2, (by decide : (0 : Nat) < 18446744073709551616), (by decide : (-9223372036854775808 : Int) ≤ 4 ∧ (4 : Int) ≤ 9223372036854775807)⟩
    · exact opensR_ok hf ls _ (Nat.mod_lt _ (by decide)) (fun x hx => hl x (by simp [hx])) r hr
theorem opensF_ok : ∀ (l : List Acct) (s : Nat), s < 18446744073709551616 → (∀ a ∈ l, a.ok) → ∀ r ∈ opensF l s, r.ok
  | [], s, _, _ => by simp [opensF]
  | a :: l, s, hs, hl => opensR_ok (fun s hs => opensF_ok l s hs (fun x hx => hl x (by simp [hx]))) _ _ hs (hl a (by simp)).leases
theorem LedR.accs {A : Asn} {l : Ledg} {ps : List AcctP} {ao : Option Addr} {cap : Nat} (h : LedR A l ps ao cap) : ∀ a ∈ l.l, a.ok := by
  intro a ha
  rw [← h.e] at ha
  obtain ⟨p, hp, rfl⟩ := List.mem_map.1 ha
  exact (h.ok p hp).1
theorem putW_ok {W : Wal} {r : Rec} (h : W.ok) (hr : r.ok) (hf : W.waits.length < 200000000) : (putW W r).2.ok := by
  unfold putW
  split
  · exact h
  · refine ⟨h.own, Nat.mod_lt _ (by decide), h.sure, ?_, by simp only [List.length_append, List.length_cons, List.length_nil]; omega⟩
    intro x hx
    rcases List.mem_append.1 hx with hx | hx
    · exact h.waits x hx
    · rw [List.mem_singleton.1 hx]; exact ⟨h.next, hr.2, hr.3, hr.4, hr.5⟩
theorem putW_len (W : Wal) (r : Rec) : (putW W r).2.waits.length ≤ W.waits.length + 1 := by
  unfold putW; split <;> simp
theorem vputV_ok {l : Ledg} {W : Wal} {r : Rec} (h : W.ok) (hr : r.ok) (hf : W.waits.length < 200000000) : (vputV l W r).2.2.ok := by
  have hr' : ({ r with seq := W.next } : Rec).ok := ⟨h.next, hr.2, hr.3, hr.4, hr.5⟩
  unfold vputV
  split
  · exact h
  · split <;> exact putW_ok h hr' hf
theorem vputV_len (l : Ledg) (W : Wal) (r : Rec) : (vputV l W r).2.2.waits.length ≤ W.waits.length + 1 := by
  unfold vputV
  split
  · simp
  · split <;> exact putW_len _ _
theorem vputV_sz (l : Ledg) (W : Wal) (r : Rec) : (vputV l W r).2.1.sz ≤ l.sz + 2 := by
  unfold vputV
  split
  · simp
  · split
    · simp
    · exact come_sz _ _
theorem ownF_lt : ∀ (l : List Nat) (o : Nat), o < 18446744073709551616 → ownF o l < 18446744073709551616
  | [], o, h => h
  | n :: l, o, _ => ownF_lt l _ (Nat.mod_lt _ (by decide))
theorem openW_ok {D : Dsk} {nx : Nat} {W : Wal} {recs : List Rec} (hn : nx < 18446744073709551616) (h : openW D nx = .ok (W, recs)) : W.ok ∧ W.waits = [] ∧ ∀ r ∈ recs, r.ok := by
  unfold openW at h
  split at h
  · cases h
  · split at h
    · cases h
    · rename_i bl _
      cases h
      refine ⟨⟨ownF_lt _ _ (by decide), ?_, Nat.mod_lt _ (by decide), by simp, by simp⟩, rfl, segRecs_ok _ _⟩
      show nextW _ _ < _
      unfold nextW
      split
      · omega
      · exact Nat.mod_lt _ (by decide)
end Go.Proofs.YtegllbmkkfnajaaGreatDoor
end
section
namespace Go.Proofs.YtegllbmkkfnajaaGreatDoor
open Go Go.Proofs
attribute [local irreducible] Go.wpList Go.Code.wp St Fn mk
set_option maxRecDepth 20000
def comeAll (fr : Nat) : Ledg → List Rec → Option Ledg
  | l, [] => some l
  | l, r :: rs => if fr < r.seq then (if ledgerCheck l r = 0 then comeAll fr (ledgerCome l r) rs else none) else comeAll fr l rs
def putAll : Ledg → Wal → List Rec → Option (Ledg × Wal)
  | l, W, [] => some (l, W)
  | l, W, r :: rs => if (vputV l W r).1.2 ≠ 0 then none else putAll (vputV l W r).2.1 (vputV l W r).2.2 rs
def noRoomB (e : Int) : Bool := e == 10 || e == 15
def endV (l : Ledg) (W : Wal) (D : Dsk) : Except (Int × Dsk) (Ledg × Wal × Dsk) :=
  if noRoomB (commitW W D).1 = true ∨ (commitW W D).1 = 0 then .ok (l, (commitW W D).2.1, (commitW W D).2.2) else .error ((commitW W D).1, (commitW W D).2.2)
def foldV (l0 : Ledg) (W : Wal) (recs : List Rec) (D : Dsk) : Except (Int × Dsk) (Ledg × Wal × Dsk) :=
  match comeAll l0.seq l0 recs with
  | none => .error (12, D)
  | some l1 => match putAll l1 W (opensF l1.l l1.seq) with
    | none => .error (12, D)
    | some (l2, W2) => endV l2 W2 D
def openV (D : Dsk) : Except (Int × Dsk) (Ledg × Wal × Dsk) :=
  match snapV D with
  | .error e => .error (e, D)
  | .ok l0 => match openW D ((l0.seq + 1) % 18446744073709551616) with
    | .error e => .error (e, D)
    | .ok x => foldV l0 x.1 x.2 D
def bootV (D : Dsk) : Except (Int × Dsk) (Ledg × Wal × Dsk) := if (clearV D).1 ≠ 0 then .error (clearV D) else openV (clearV D).2
structure Boots (D : Dsk) : Prop where
  ok : D.ok
  fit : (clearV D).2.fit
  sz : ∀ l0 x, snapV (clearV D).2 = .ok l0 → openW (clearV D).2 ((l0.seq + 1) % 18446744073709551616) = .ok x → l0.sz + 2 * x.2.length ≤ 274877906944
  few : ∀ l0 x l1, snapV (clearV D).2 = .ok l0 → openW (clearV D).2 ((l0.seq + 1) % 18446744073709551616) = .ok x → comeAll l0.seq l0 x.2 = some l1 → (opensF l1.l l1.seq).length ≤ 100000000
def bootOk (μ : Mem) (v db : Nat) (r : Except (Int × Dsk) (Ledg × Wal × Dsk)) (x : Value) (L : List Asn) : Prop :=
  x = .tuple #[] ∧ ∃ y lb, r = .ok y ∧ L = [vltC μ v db (some lb) y.1, logC lb db y.2.1, dskC db y.2.2]
def bootEr (μ : Mem) (db : Nat) (r : Except (Int × Dsk) (Ledg × Wal × Dsk)) (k : Int) (L : List Asn) : Prop :=
  ∃ E, r = .error (k, E) ∧ k ≠ 0 ∧ L = [immC μ, dskC db E]
theorem openW_err {D : Dsk} {n : Nat} {e : Int} (h : openW D n = .error e) : e ≠ 0 := by
  unfold openW at h
  split at h
  · cases h; decide
  · split at h
    · rename_i e2 h2
      cases h
      have : ∀ (l : List Nat) (acc : List (List UInt8)), readAll D acc l = .error e → e ≠ 0 := by
        intro l
        induction l with
        | nil => intro acc h; cases h
        | cons n l ih =>
          intro acc h
          simp only [readAll] at h
          split at h
          · rename_i e3 h3; cases h; exact readD_err h3
          · exact ih _ h
      exact this _ _ h2
    · cases h
theorem c_vboot (μ : Mem) (hT : Tab (imm μ)) (v db : Nat) (D : Dsk) (hB : Boots D) :
    Fn Tryz.prog 23 [.pointer (some ⟨v, 0, none⟩)] [vltC μ v db none ⟨0, []⟩, dskC db D]
      (PRet faultV (bootOk μ v db (bootV D)) (bootEr μ db (bootV D))) := by
  obtain ⟨C, hC⟩ : ∃ C, bootV D = C := ⟨_, rfl⟩
  rw [hC]
  unfold bootV at hC
  have hcl := c_vclear μ v db none ⟨0, []⟩ D hB.ok
  have hfit := hB.fit
  have hsz := hB.sz
  have hfew := hB.few
  generalize clearV D = CV at hcl hC hfit hsz hfew
  have hsn := c_vsnap μ hT v db none ⟨0, []⟩ CV.2 hfit.ok
  refine Fn.intro Tryz.call23 Tryz.func23 rfl Tryz.ntmps23 rfl ?_; intro g w Q hQ H
  refine sq ?_; intro K1 hK1; refine wp_region_lit ?_; refine xmv rfl ?_
  refine xcpr [0, 0] H (hcl) rfl rfl rfl rfl rfl ?_ ?_
  · rintro _ _ w ⟨h0, rfl, rfl⟩ H; replace H := H.ap rfl; skip
    rw [if_neg (by simpa using h0)] at hC
    unfold openV at hC
    refine wpList_nil ?_; refine tn ?_; refine hK1 _ _ ?_; clear hK1 K1; refine sq ?_; intro K2 hK2; refine wp_region_lit ?_; refine xmv rfl ?_; refine xmv rfl ?_
    refine xcpr [0, 0] H (hsn) rfl rfl rfl rfl rfl ?_ ?_
    · rintro _ _ w ⟨l0, ν, ps0, ao0, cap0, hμ0, hL0, hs0, rfl, rfl⟩ H; replace H := H.ap rfl; skip
      obtain ⟨ξ, ps1, ao1, cap1, hμ1, hL1, H⟩ := H.unvlt
      have hL0 := hL0.sees hμ1.sees
      rw [hs0] at hC
      simp only at hC
      refine xnc rfl ?_
      refine xfa rfl ?_
      (refine xsta 1 H rfl rfl rfl rfl rfl rfl ?_; intro w H)
      refine wpList_nil ?_; refine tn ?_; refine hK2 _ _ ?_; clear hK2 K2; refine sq ?_; intro K3 hK3; refine wp_region_lit ?_; refine xmv rfl ?_
      refine xnc rfl ?_
      refine xfa rfl ?_; refine xfa rfl ?_
      refine xldb 0 H rfl rfl rfl ?_
      refine xas rfl ?_; refine wpList_nil ?_; refine tn ?_; refine hK3 _ _ ?_; clear hK3 K3; refine sq ?_; intro K4 hK4; refine wp_region_lit ?_; refine xmv rfl ?_
      refine xnc rfl ?_
      refine xfa rfl ?_
      refine xldb 0 H rfl rfl rfl ?_
      refine xmv rfl ?_
      refine xadm_u64 (b := 1) rfl rfl ?_
      have hwo := c_wopen ξ db ((l0.seq + 1) % 18446744073709551616) CV.2 hfit (Nat.mod_lt _ (by decide))
      have hl0s := hL0.seq
      rcases ho : openW CV.2 ((l0.seq + 1) % 18446744073709551616) with e | x
      · rw [ho] at hwo hC
        have he := openW_err ho
        refine xc [1, 1] H (hwo) rfl rfl rfl rfl rfl ?_; rintro _ _ w ⟨ζ, hζ, rfl, rfl⟩ H; replace H := H.ap rfl
        refine xmv rfl ?_; refine xex rfl rfl ?_; refine xex rfl rfl ?_; refine xex rfl rfl ?_; refine xas rfl ?_; refine xas rfl ?_; refine xas rfl ?_
        refine wpList_nil ?_; refine tn ?_; refine hK4 _ _ ?_; clear hK4 K4; refine sq ?_; intro K5 hK5; refine wp_region_lit ?_; refine xmv rfl ?_
        refine xcpr [] H ((c_must e)) rfl rfl rfl rfl rfl ?_ ?_
        · rintro _ _ w ⟨h1, rfl, rfl⟩ H; replace H := H.ap rfl; skip
          exact absurd h1 he
        · rintro k _ w ⟨rfl, h1, rfl⟩ H; replace H := H.ap rfl; refine tp ?_; clear hK5 K5; skip
          replace H := St.toimmC ((hμ0.trans hμ1).trans hζ) (H.keeps [0, 0] rfl)
          refine hQ _ _ _ (bpp H ?_)
          exact ⟨_, hC.symm, he, rfl⟩
      · rw [ho] at hwo hC
        have hsz := hsz l0 x hs0 ho
        have hfew := hfew l0 x
        obtain ⟨hWok, hWn, hrok⟩ := openW_ok (Nat.mod_lt _ (by decide)) ho
        obtain ⟨W, recs⟩ := x
        simp only at hC hsz hWok hWn hrok
        unfold foldV at hC
        refine xc [1, 1] H (hwo) rfl rfl rfl rfl rfl ?_; rintro _ _ w ⟨ζ, lb, ro, rc, hζ, rfl, rfl⟩ H; replace H := H.ap rfl
        refine xmv rfl ?_; refine xex rfl rfl ?_; refine xex rfl rfl ?_; refine xex rfl rfl ?_; refine xas rfl ?_; refine xas rfl ?_; refine xas rfl ?_
        refine wpList_nil ?_; refine tn ?_; refine hK4 _ _ ?_; clear hK4 K4; refine sq ?_; intro K5 hK5; refine wp_region_lit ?_; refine xmv rfl ?_
        refine xcpr [] H ((c_must 0)) rfl rfl rfl rfl rfl ?_ ?_
        · rintro _ _ w ⟨h1, rfl, rfl⟩ H; replace H := H.ap rfl; refine wpList_nil ?_; refine tn ?_; refine hK5 _ _ ?_; clear hK5 K5; refine sq ?_; intro K6 hK6
          refine wp_region_lit ?_; refine xmv rfl ?_; refine xmv rfl ?_
          refine xnc rfl ?_
          refine xfa rfl ?_
          (refine xst 4 H rfl rfl rfl rfl rfl ?_; intro w H)
          refine wpList_nil ?_; refine tn ?_; refine hK6 _ _ ?_; clear hK6 K6; refine sq ?_; intro K7 hK7; refine sq ?_; intro K8 hK8; refine wp_region_lit ?_
          refine xmv rfl ?_; refine xli rfl ?_; refine xmv rfl ?_; refine wpList_nil ?_; refine tn ?_; refine hK8 _ _ ?_; clear hK8 K8; refine wp_block ?_
          replace H : St g w [vltC μ v db (some lb) l0, logC lb db W, own ro rc recT 6 recs.length (recsV recs), dskC db CV.2] := St.tovlt ((hμ0.trans hμ1).trans hζ) (hL0.sees hζ.sees) (H.front' [3] rfl rfl)
          have hrl : recs.length ≤ 1099511627776 := by omega
          refine lp2 (α := Nat) (β := Ledg) (fun i l => [(0, .pointer (some ⟨v, 0, none⟩)), (2, .int .u64 l0.seq), (42, .slice ro recs.length rc), (43, .int .i64 recs.length), (44, .int .i64 i)]) (fun i l => [vltC μ v db (some lb) l, logC lb db W, own ro rc recT 6 recs.length (recsV recs), dskC db CV.2]) (fun i l => comeAll l0.seq l0 recs = comeAll l0.seq l (recs.drop i) ∧ i ≤ recs.length ∧ l.sz ≤ l0.sz + 2 * i) (fun i l => recs.length - i) (0) (l0) ⟨rfl, rfl, rfl, rfl, rfl, True.intro⟩ (⟨rfl, Nat.zero_le _, Nat.le_refl _⟩) H ?_; intro i l ρ w hI H K9 hK9
          obtain ⟨hca, hi, hlz⟩ := hI
          refine sq ?_; intro K10 hK10; refine wp_region_lit ?_; refine xlt rfl rfl ?_; refine wpList_nil ?_; refine tn ?_; refine hK10 _ _ ?_; clear hK10 K10
          refine sq ?_; intro K11 hK11
          refine if_ rfl (fun k1 => ?_) (fun k1 => ?_)
          · have k1 : i < recs.length := by simpa using k1
            have hg : recs[i]? = some recs[i] := List.getElem?_eq_getElem k1
            have hro := hrok _ (List.getElem_mem k1)
            rw [List.drop_eq_getElem_cons k1] at hca
            generalize recs[i] = r at hg hro hca
            simp only [comeAll] at hca
            refine wp_skip ?_; refine tn ?_; refine hK11 _ _ ?_; clear hK11 K11; refine sq ?_; intro K12 hK12; refine wp_block ?_; refine sq ?_; intro K13 hK13
            refine wp_region_lit ?_
            refine xiar (H.front' [2] rfl rfl).ownRd (flat_get recV_len hg) (by simp [recV]) k1 rfl rfl rfl ?_; intro b46 o46 hx46
            refine xlda 2 H rfl rfl hx46 rfl ?_
            refine xal H ?_; intro b7 w H
            (refine xsta 0 H rfl rfl rfl rfl rfl rfl ?_; intro w H)
            refine wpList_nil ?_; refine tn ?_; refine hK13 _ _ ?_; clear hK13 K13; refine sq ?_; intro K14 hK14; refine wp_region_lit ?_; refine xfa rfl ?_
            refine xldb 0 H rfl rfl rfl ?_
            refine xmv rfl ?_; refine xgt rfl rfl ?_; refine wpList_nil ?_; refine tn ?_; refine hK14 _ _ ?_; clear hK14 K14
            refine if_ rfl (fun h2 => ?_) (fun h2 => ?_)
            · have h2 : l0.seq < r.seq := by have := of_decide_eq_true h2; omega
              rw [if_pos h2] at hca
              refine wp_region_lit ?_; refine xmv rfl ?_
              refine xldab 0 H rfl rfl rfl rfl ?_
              refine xcpr [1] H ((c_vcome μ hT v db (some lb) l r (Ledg.sm_of (by omega)) hro)) rfl rfl rfl rfl rfl ?_ ?_
              · rintro _ _ w ⟨h3, rfl, rfl⟩ H; replace H := H.ap rfl; refine wpList_nil ?_; refine bn ?_; refine tn ?_; refine hK12 _ _ ?_; clear hK12 K12
                refine wp_region_lit ?_
                refine xadi rfl rfl (wi64 (by omega)) ?_
                refine xmv rfl ?_; refine wpList_nil ?_
                rw [if_pos h3] at hca
                have hcz := come_sz l r
                replace H := H.keeps [0, 1, 1, 1] rfl
                refine tn ?_; refine hK9 _ _ (i + 1) (ledgerCome l r) ⟨rfl, rfl, rfl, rfl, rfl, True.intro⟩ ?_ H ?_
                · exact ⟨hca, k1, by omega⟩
                · omega
              · rintro k _ w ⟨rfl, h3, rfl⟩ H; replace H := H.ap rfl; refine bp ?_; refine tp ?_; clear hK12 K12; refine tp ?_; clear hK9 K9; refine bp ?_; refine tp ?_; clear hK7 K7
                skip
                rw [if_neg h3] at hca
                rw [hca] at hC
                replace H := H.vltimm
                replace H := H.keeps [0, 3] rfl
                refine hQ _ _ _ (bpp H ?_)
                exact ⟨_, hC.symm, by decide, rfl⟩
            · have h2 : ¬ l0.seq < r.seq := by have := of_decide_eq_false h2; omega
              rw [if_neg h2] at hca
              refine wp_skip ?_; refine bn ?_; refine tn ?_; refine hK12 _ _ ?_; clear hK12 K12; refine wp_region_lit ?_
              refine xadi rfl rfl (wi64 (by omega)) ?_
              refine xmv rfl ?_; refine wpList_nil ?_
              replace H := H.keeps [1, 1, 1, 1] rfl
              refine tn ?_; refine hK9 _ _ (i + 1) (l) ⟨rfl, rfl, rfl, rfl, rfl, True.intro⟩ ?_ H ?_
              · exact ⟨hca, k1, by omega⟩
              · omega
          · have k1 : i = recs.length := by have : ¬ i < recs.length := (by simpa using k1); omega
            rw [k1, List.drop_length] at hca
            simp only [comeAll] at hca
            rw [hca] at hC
            simp only at hC
            have hfew := hfew l hs0 ho hca
            obtain ⟨ξ2, ps2, ao2, cap2, hμ2, hL2, H⟩ := H.unvlt
            have hopk := opensF_ok l.l l.seq hL2.seq hL2.accs
            refine wp_exit ?_; refine te ?_; clear hK11 K11; refine te ?_; clear hK9 K9; refine be ?_; refine tn ?_; refine hK7 _ _ ?_; clear hK7 K7
            refine sq ?_; intro K12 hK12; refine sq ?_; intro K13 hK13; refine wp_region_lit ?_; refine xmv rfl ?_
            refine xnc rfl ?_
            refine xfa rfl ?_
            refine xldab 1 H rfl rfl rfl rfl ?_
            refine xc [0] H ((c_lopen (imm ξ2) l ps2 ao2 cap2 hL2 (by omega))) rfl rfl rfl rfl rfl ?_; rintro _ _ w ⟨oo, oc, rfl, rfl⟩ H; replace H := H.ap rfl
            refine xli rfl ?_; refine xmv rfl ?_; refine wpList_nil ?_; refine tn ?_; refine hK13 _ _ ?_; clear hK13 K13; refine wp_block ?_
            generalize opensF l.l l.seq = ops at H hC hfew hopk ⊢
            replace H : St g w [vltC μ v db (some lb) l, own oo oc recT 6 ops.length (recsV ops), logC lb db W, own ro rc recT 6 recs.length (recsV recs), dskC db CV.2] := St.tovlt hμ2 hL2 (H.front' [1, 1] rfl rfl)
            replace H := H.keeps [0, 1, 0, 1] rfl
            refine lp3 (α := Nat) (β := Ledg) (γ := Wal) (fun j m X => [(0, .pointer (some ⟨v, 0, none⟩)), (60, .slice oo ops.length oc), (61, .int .i64 ops.length), (62, .int .i64 j)]) (fun j m X => [vltC μ v db (some lb) m, logC lb db X, own oo oc recT 6 ops.length (recsV ops), dskC db CV.2]) (fun j m X => putAll l W ops = putAll m X (ops.drop j) ∧ j ≤ ops.length ∧ m.sz ≤ l.sz + 2 * j ∧ X.ok ∧ X.waits.length ≤ j) (fun j m X => ops.length - j) (0) (l) (W) ⟨rfl, rfl, rfl, rfl, True.intro⟩ (⟨rfl, Nat.zero_le _, Nat.le_refl _, hWok, by simp [hWn]⟩) H ?_; intro j m X ρ w hI H K14 hK14
            obtain ⟨hpa, hj, hmz, hXok, hXw⟩ := hI
            refine sq ?_; intro K15 hK15; refine wp_region_lit ?_; refine xlt rfl rfl ?_; refine wpList_nil ?_; refine tn ?_; refine hK15 _ _ ?_; clear hK15 K15
            refine sq ?_; intro K16 hK16
            refine if_ rfl (fun k2 => ?_) (fun k2 => ?_)
            · have k2 : j < ops.length := by simpa using k2
              have hg : ops[j]? = some ops[j] := List.getElem?_eq_getElem k2
              have hro := hopk _ (List.getElem_mem k2)
              rw [List.drop_eq_getElem_cons k2] at hpa
              generalize ops[j] = r at hg hro hpa
              simp only [putAll] at hpa
              refine wp_skip ?_; refine tn ?_; refine hK16 _ _ ?_; clear hK16 K16; refine sq ?_; intro K17 hK17; refine wp_block ?_; refine sq ?_; intro K18 hK18
              refine wp_region_lit ?_
              refine xiar (H.front' [2] rfl rfl).ownRd (flat_get recV_len hg) (by simp [recV]) k2 rfl rfl rfl ?_; intro b64 o64 hx64
              refine xlda 2 H rfl rfl hx64 rfl ?_
              refine xal H ?_; intro b9 w H
              (refine xsta 0 H rfl rfl rfl rfl rfl rfl ?_; intro w H)
              refine wpList_nil ?_; refine tn ?_; refine hK18 _ _ ?_; clear hK18 K18; refine sq ?_; intro K19 hK19; refine wp_region_lit ?_; refine xmv rfl ?_
              refine xldab 0 H rfl rfl rfl rfl ?_
              refine xc [1, 1] H ((c_vput μ hT v db lb m X r (Ledg.sm_of (by omega)) hro hXok)) rfl rfl rfl rfl rfl ?_; rintro _ _ w ⟨rfl, rfl⟩ H; replace H := H.ap rfl
              have hvo := vputV_ok (l := m) hXok hro (by omega)
              have hvl := vputV_len m X r
              have hvz := vputV_sz m X r
              generalize vputV m X r = PV at H hpa hvo hvl hvz ⊢
              refine xmv rfl ?_; refine xex rfl rfl ?_; refine xex rfl rfl ?_; refine xas rfl ?_; refine xas rfl ?_; refine wpList_nil ?_
              refine tn ?_; refine hK19 _ _ ?_; clear hK19 K19; refine sq ?_; intro K20 hK20; refine wp_region_lit ?_; refine xmv rfl ?_; refine xne rfl rfl ?_
              refine wpList_nil ?_; refine tn ?_; refine hK20 _ _ ?_; clear hK20 K20
              refine if_ rfl (fun h2 => ?_) (fun h2 => ?_)
              · have h2 : PV.1.2 ≠ 0 := by simpa using h2
                rw [if_pos h2] at hpa
                rw [hpa] at hC
                refine wp_region_lit ?_
                refine xcpr [] H ((c_must 12)) rfl rfl rfl rfl rfl ?_ ?_
                · rintro _ _ w ⟨h3, rfl, rfl⟩ H; replace H := H.ap rfl; skip
                  exact absurd h3 (by decide)
                · rintro k _ w ⟨rfl, h3, rfl⟩ H; replace H := H.ap rfl; refine bp ?_; refine tp ?_; clear hK17 K17; refine tp ?_; clear hK14 K14; refine bp ?_; refine tp ?_; clear hK12 K12
                  skip
                  replace H := H.vltimm
                  replace H := H.keeps [0, 3] rfl
                  refine hQ _ _ _ (bpp H ?_)
                  exact ⟨_, hC.symm, by decide, rfl⟩
              · have h2 : ¬ PV.1.2 ≠ 0 := by simpa using h2
                rw [if_neg h2] at hpa
                refine wp_skip ?_; refine bn ?_; refine tn ?_; refine hK17 _ _ ?_; clear hK17 K17; refine wp_region_lit ?_
                refine xadi rfl rfl (wi64 (by omega)) ?_
                refine xmv rfl ?_; refine wpList_nil ?_
                replace H := H.keeps [0, 0, 1, 1] rfl
                refine tn ?_; refine hK14 _ _ (j + 1) (PV.2.1) (PV.2.2) ⟨rfl, rfl, rfl, rfl, True.intro⟩ ?_ H ?_
                · exact ⟨hpa, k2, by omega, hvo, by omega⟩
                · omega
            · have k2 : j = ops.length := by have : ¬ j < ops.length := (by simpa using k2); omega
              rw [k2, List.drop_length] at hpa
              simp only [putAll] at hpa
              rw [hpa] at hC
              simp only at hC
              unfold endV at hC
              have hcm := c_wcommit lb db X CV.2 hXok hfit.ok
              generalize commitW X CV.2 = CM at hcm hC
              obtain ⟨ξ3, ps3, ao3, cap3, hμ3, hL3, H⟩ := H.unvlt
              refine wp_exit ?_; refine te ?_; clear hK16 K16; refine te ?_; clear hK14 K14; refine be ?_; refine tn ?_; refine hK12 _ _ ?_; clear hK12 K12
              refine sq ?_; intro K17 hK17; refine wp_region_lit ?_; refine xmv rfl ?_
              refine xnc rfl ?_
              refine xfa rfl ?_
              refine xldb 1 H rfl rfl rfl ?_
              refine xc [2, 3] H (hcm) rfl rfl rfl rfl rfl ?_; rintro _ _ w ⟨rfl, rfl⟩ H; replace H := H.ap rfl
              replace H := St.tovlt hμ3 hL3 (H.front' [2, 2] rfl rfl)
              refine xas rfl ?_; refine wpList_nil ?_; refine tn ?_; refine hK17 _ _ ?_; clear hK17 K17; refine sq ?_; intro K18 hK18; refine wp_region_lit ?_
              refine xmv rfl ?_
              refine xc [] H ((c_noroom CM.1)) rfl rfl rfl rfl rfl ?_; rintro _ _ w ⟨rfl, rfl⟩ H; replace H := H.ap rfl
              refine xnt rfl ?_; refine wpList_nil ?_; refine tn ?_; refine hK18 _ _ ?_; clear hK18 K18
              refine if_ rfl (fun h3 => ?_) (fun h3 => ?_)
              · have h3 : noRoomB CM.1 = false := by unfold noRoomB; simpa using h3
                refine wp_region_lit ?_; refine xmv rfl ?_
                refine xcpr [] H ((c_must CM.1)) rfl rfl rfl rfl rfl ?_ ?_
                · rintro _ _ w ⟨h4, rfl, rfl⟩ H; replace H := H.ap rfl; refine wpList_nil ?_
                  replace H := H.keeps [0, 0, 0] rfl; refine hQ _ _ _ (bpr ?_); refine n0 rfl H ?_
                  rw [if_pos (.inr h4)] at hC
                  exact ⟨rfl, _, lb, hC.symm, rfl⟩
                · rintro k _ w ⟨rfl, h4, rfl⟩ H; replace H := H.ap rfl; skip; skip
                  rw [if_neg (by rw [h3]; simpa using h4)] at hC
                  replace H := H.vltimm
                  replace H := H.keeps [0, 1] rfl
                  refine hQ _ _ _ (bpp H ?_)
                  exact ⟨_, hC.symm, h4, rfl⟩
              · have h3 : noRoomB CM.1 = true := by unfold noRoomB; cases h : (CM.1 == 10 || CM.1 == 15) with | true => rfl | false => rw [h] at h3; exact absurd h3 (by decide)
                rw [if_pos (.inl h3)] at hC
                refine wp_skip ?_
                replace H := H.keeps [0, 0, 0] rfl; refine hQ _ _ _ (bpr ?_); refine n0 rfl H ?_
                exact ⟨rfl, _, lb, hC.symm, rfl⟩
        · rintro k _ w ⟨rfl, h1, rfl⟩ H; replace H := H.ap rfl; refine tp ?_; clear hK5 K5; skip
          exact absurd rfl h1
    · rintro k _ w ⟨hs0, h1, rfl⟩ H; replace H := H.ap rfl; refine tp ?_; clear hK2 K2; skip
      replace H := H.vltimm
      refine hQ _ _ _ (bpp H ?_)
      rw [hs0] at hC
      exact ⟨_, hC.symm, h1, rfl⟩
  · rintro k _ w ⟨rfl, h0, rfl⟩ H; replace H := H.ap rfl; refine tp ?_; clear hK1 K1; skip
    replace H := H.vltimm
    refine hQ _ _ _ (bpp H ?_)
    rw [if_pos h0] at hC
    exact ⟨_, hC.symm, h0, rfl⟩
end Go.Proofs.YtegllbmkkfnajaaGreatDoor
end
section
namespace Go.Proofs.YtegllbmkkfnajaaGreatDoor
open Go Go.Proofs
attribute [local irreducible] Go.wpList Go.Code.wp St Fn mk
set_option maxRecDepth 20000
def bootR (μ : Mem) (db : Nat) (r : Except (Int × Dsk) (Ledg × Wal × Dsk)) (x : Value) (L : List Asn) : Prop :=
  match r with
  | .ok y => ∃ v lb, x = .tuple #[.pointer (some ⟨v, 0, none⟩), .int .i64 0] ∧ L = [vltC μ v db (some lb) y.1, logC lb db y.2.1, dskC db y.2.2]
  | .error e => x = .tuple #[.pointer none, .int .i64 e.1] ∧ L = [immC μ, dskC db e.2]
theorem c_Boot (μ : Mem) (hT : Tab (imm μ)) (db : Nat) (D : Dsk) (hB : Boots D) :
    Fn Tryz.prog 6 [.pointer (some ⟨db, 0, none⟩)] [imm μ, dskC db D] (Ret (bootR μ db (bootV D))) := by
  refine Fn.intro Tryz.call6 Tryz.func6 rfl Tryz.ntmps6 rfl ?_; intro g w Q hQ H
  refine sq ?_; intro K1 hK1; refine wp_region_lit ?_; refine xas rfl ?_; refine xas rfl ?_; refine wpList_nil ?_; refine tn ?_; refine hK1 _ _ ?_; clear hK1 K1
  refine sq ?_; intro K2 hK2; refine sq ?_; intro K3 hK3; refine wp_region_lit ?_; refine xmv rfl ?_; refine xpns rfl rfl ?_; refine wpList_nil ?_
  refine tn ?_; refine hK3 _ _ ?_; clear hK3 K3; refine iff_ rfl ?_; refine wp_skip ?_; refine tn ?_; refine hK2 _ _ ?_; clear hK2 K2; refine sq ?_; intro K4 hK4
  refine wp_region_lit ?_; refine xmv rfl ?_; refine xbu rfl ?_; refine xbx H rfl rfl ?_; intro b10 w H; refine xas rfl ?_; refine wpList_nil ?_
  refine tn ?_; refine hK4 _ _ ?_; clear hK4 K4; refine sq ?_; intro K5 hK5; refine sq ?_; intro K6 hK6; refine wp_region_lit ?_; refine xmv rfl ?_
  refine xmf rfl rfl ?_
  replace H : St g w [vltC μ b10 db none ⟨0, []⟩, dskC db D] := St.tovlt (l := ⟨0, []⟩) Mem.rfl (led0R _) (H.front' [1] rfl rfl)
  refine xcw H ((c_steps 23 [.pointer (some ⟨b10, 0, none⟩)] [] [.pointer (some ⟨b10, 0, none⟩)] _ _ _ rfl (c_vboot μ hT b10 db D hB))) rfl rfl rfl rfl ?_; rintro _ _ w hv H
  rcases hv with ⟨rfl, y, lb, hy, rfl⟩ | ⟨k, rfl, E, hE, hk, rfl⟩
  · refine xas rfl ?_; refine wpList_nil ?_; refine tn ?_; refine hK6 _ _ ?_; clear hK6 K6; refine sq ?_; intro K7 hK7; refine wp_region_lit ?_; refine xmv rfl ?_
    refine xne rfl rfl ?_; refine wpList_nil ?_; refine tn ?_; refine hK7 _ _ ?_; clear hK7 K7; refine iff_ rfl ?_; refine wp_skip ?_
    refine tn ?_; refine hK5 _ _ ?_; clear hK5 K5; refine sq ?_; intro K8 hK8; refine wp_region_lit ?_; refine xmv rfl ?_; refine xas rfl ?_; refine xas rfl ?_
    refine wpList_nil ?_; refine tn ?_; refine hK8 _ _ ?_; clear hK8 K8; refine wp_ret ?_
    refine hQ _ _ _ ?_; refine r2 rfl rfl rfl H ?_
    unfold bootR
    rw [hy]
    exact ⟨_, lb, rfl, rfl⟩
  · refine xas rfl ?_; refine wpList_nil ?_; refine tn ?_; refine hK6 _ _ ?_; clear hK6 K6; refine sq ?_; intro K7 hK7; refine wp_region_lit ?_; refine xmv rfl ?_
    refine xne rfl rfl ?_; refine wpList_nil ?_; refine tn ?_; refine hK7 _ _ ?_; clear hK7 K7
    refine if_ rfl (fun h1 => ?_) (fun h1 => ?_)
    · refine sq ?_; intro K8 hK8; refine wp_region_lit ?_; refine xmv rfl ?_; refine xas rfl ?_; refine xas rfl ?_; refine wpList_nil ?_
      refine tn ?_; refine hK8 _ _ ?_; clear hK8 K8; refine wp_ret ?_; refine tr ?_; clear hK5 K5
      refine hQ _ _ _ ?_; refine r2 rfl rfl rfl H ?_
      unfold bootR
      rw [hE]
      exact ⟨rfl, rfl⟩
    · exact absurd h1 (by simpa using hk)
theorem c_Boot0 : Fn Tryz.prog 6 [.pointer none] [] (Ret fun v L => v = .tuple #[.pointer none, .int .i64 8] ∧ L = []) := by
  refine Fn.intro Tryz.call6 Tryz.func6 rfl Tryz.ntmps6 rfl ?_; intro g w Q hQ H
  refine sq ?_; intro K1 hK1; refine wp_region_lit ?_; refine xas rfl ?_; refine xas rfl ?_; refine wpList_nil ?_; refine tn ?_; refine hK1 _ _ ?_; clear hK1 K1
  refine sq ?_; intro K2 hK2; refine sq ?_; intro K3 hK3; refine wp_region_lit ?_; refine xmv rfl ?_
  refine xpnz rfl rfl ?_
  refine wpList_nil ?_; refine tn ?_; refine hK3 _ _ ?_; clear hK3 K3; refine ift rfl ?_; refine sq ?_; intro K4 hK4; refine wp_region_lit ?_; refine xas rfl ?_
  refine xas rfl ?_; refine wpList_nil ?_; refine tn ?_; refine hK4 _ _ ?_; clear hK4 K4; refine wp_ret ?_; refine tr ?_; clear hK2 K2
  refine hQ _ _ _ ?_; refine r2 rfl rfl rfl H ?_
  exact ⟨rfl, rfl⟩
theorem vputV_zero {l : Ledg} {W : Wal} {r : Rec} (h : (vputV l W r).1.2 ≠ 0) : (vputV l W r).1.1 = 0 := by
  unfold vputV at h ⊢
  split
  · rfl
  · split
    · rfl
    · rename_i h1 h2
      rw [if_neg h1, if_neg h2] at h
      exact absurd h h2
theorem c_do1 (μ : Mem) (hT : Tab (imm μ)) (b2 b3 b6 v db lb : Nat) (l : Ledg) (W : Wal) (r : Rec) (hs : l.sm) (hr : r.ok) (hW : W.ok) :
    Fn Tryz.prog 20 [.pointer (some ⟨b2, 0, none⟩), .pointer (some ⟨b3, 0, none⟩), .pointer (some ⟨b6, 0, none⟩)] [blk b6 [.int .u64 0] 22, blk b2 [.pointer (some ⟨v, 0, none⟩)] 26, blk b3 (recV r) recT, vltC μ v db (some lb) l, logC lb db W]
      (PRet faultV (fun x L => x = .tuple #[] ∧ (vputV l W r).1.2 = 0 ∧ L = [blk b6 [.int .u64 (vputV l W r).1.1] 22, vltC μ v db (some lb) (vputV l W r).2.1, logC lb db (vputV l W r).2.2])
        (fun k L => k = (vputV l W r).1.2 ∧ k ≠ 0 ∧ L = [blk b6 [.int .u64 0] 22, vltC μ v db (some lb) (vputV l W r).2.1, logC lb db (vputV l W r).2.2])) := by
  have hp := c_vput μ hT v db lb l W r hs hr hW
  generalize vputV l W r = PV at hp ⊢
  refine Fn.intro Tryz.call20 Tryz.func20 rfl Tryz.ntmps20 rfl ?_; intro g w Q hQ H
  refine sq ?_; intro K1 hK1; refine wp_region_lit ?_
  refine xldb 1 H rfl rfl rfl ?_
  refine xldab 2 H rfl rfl rfl rfl ?_
  refine xc [3, 3] H (hp) rfl rfl rfl rfl rfl ?_; rintro _ _ w ⟨rfl, rfl⟩ H; replace H := H.ap rfl
  refine xmv rfl ?_; refine xex rfl rfl ?_; refine xex rfl rfl ?_; refine xas rfl ?_; refine xas rfl ?_; refine wpList_nil ?_
  refine tn ?_; refine hK1 _ _ ?_; clear hK1 K1; refine sq ?_; intro K2 hK2; refine wp_region_lit ?_; refine xmv rfl ?_
  refine xcpr [] H ((c_must PV.1.2)) rfl rfl rfl rfl rfl ?_ ?_
  · rintro _ _ w ⟨h4, rfl, rfl⟩ H; replace H := H.ap rfl; refine wpList_nil ?_; refine tn ?_; refine hK2 _ _ ?_; clear hK2 K2; refine wp_region_lit ?_
    refine xmv rfl ?_
    (refine xst 2 H rfl rfl rfl rfl rfl ?_; intro w H)
    refine wpList_nil ?_
    replace H := H.keeps [0, 0, 0] rfl; refine hQ _ _ _ (bpr ?_); refine n0 rfl H ?_
    exact ⟨rfl, h4, rfl⟩
  · rintro k _ w ⟨rfl, h4, rfl⟩ H; replace H := H.ap rfl; refine tp ?_; clear hK2 K2; skip
    replace H := H.keeps [2, 0, 0] rfl
    refine hQ _ _ _ (bpp H ?_)
    exact ⟨rfl, h4, rfl⟩
theorem c_do (μ : Mem) (hT : Tab (imm μ)) (v db lb : Nat) (l : Ledg) (W : Wal) (r : Rec) (hs : l.sm) (hr : r.ok) (hW : W.ok) :
    Fn Tryz.prog 5 [.pointer (some ⟨v, 0, none⟩), .agg (recV r).toArray] [vltC μ v db (some lb) l, logC lb db W]
      (Ret fun x L => x = .tuple #[.int .u64 (vputV l W r).1.1, .int .i64 (vputV l W r).1.2] ∧ L = [vltC μ v db (some lb) (vputV l W r).2.1, logC lb db (vputV l W r).2.2]) := by
  have hz := @vputV_zero l W r
  have hd := fun b2 b3 b6 => c_do1 μ hT b2 b3 b6 v db lb l W r hs hr hW
  generalize vputV l W r = PV at hd hz ⊢
  refine Fn.intro Tryz.call5 Tryz.func5 rfl Tryz.ntmps5 rfl ?_; intro g w Q hQ H
  refine sq ?_; intro K1 hK1; refine wp_region_lit ?_; refine xbx H rfl rfl ?_; intro b2 w H; refine xbx H rfl rfl ?_; intro b3 w H; refine xas rfl ?_
  refine xas rfl ?_; refine wpList_nil ?_; refine tn ?_; refine hK1 _ _ ?_; clear hK1 K1; refine sq ?_; intro K2 hK2; refine sq ?_; intro K3 hK3
  refine wp_region_lit ?_
  refine xldb 1 H rfl rfl rfl ?_
  refine xpns rfl rfl ?_
  refine wpList_nil ?_; refine tn ?_; refine hK3 _ _ ?_; clear hK3 K3; refine iff_ rfl ?_; refine wp_skip ?_; refine tn ?_; refine hK2 _ _ ?_; clear hK2 K2
  refine sq ?_; intro K4 hK4; refine wp_region_lit ?_; refine xal H ?_; intro b6 w H; refine wpList_nil ?_; refine tn ?_; refine hK4 _ _ ?_; clear hK4 K4
  refine sq ?_; intro K5 hK5; refine wp_region_lit ?_; refine xmf rfl rfl ?_
  replace H := H.front' [0, 1] rfl rfl
  refine xcw H ((c_steps 20 [] [.pointer (some ⟨b2, 0, none⟩), .pointer (some ⟨b3, 0, none⟩), .pointer (some ⟨b6, 0, none⟩)] [.pointer (some ⟨b2, 0, none⟩), .pointer (some ⟨b3, 0, none⟩), .pointer (some ⟨b6, 0, none⟩)] _ _ _ rfl (hd b2 b3 b6))) rfl rfl rfl rfl ?_; rintro _ _ w hv H
  rcases hv with ⟨rfl, h4, rfl⟩ | ⟨k, rfl, rfl, h4, rfl⟩
  · refine xas rfl ?_; refine wpList_nil ?_; refine tn ?_; refine hK5 _ _ ?_; clear hK5 K5; refine sq ?_; intro K6 hK6; refine wp_region_lit ?_
    refine xldb 0 H rfl rfl rfl ?_
    refine xmv rfl ?_; refine xas rfl ?_; refine xas rfl ?_; refine wpList_nil ?_; refine tn ?_; refine hK6 _ _ ?_; clear hK6 K6; refine wp_ret ?_
    replace H := H.keeps [1, 1] rfl; refine hQ _ _ _ ?_; refine r2 rfl rfl rfl H ?_
    exact ⟨by rw [h4], rfl⟩
  · have hz := hz h4
    refine xas rfl ?_; refine wpList_nil ?_; refine tn ?_; refine hK5 _ _ ?_; clear hK5 K5; refine sq ?_; intro K6 hK6; refine wp_region_lit ?_
    refine xldb 0 H rfl rfl rfl ?_
    refine xmv rfl ?_; refine xas rfl ?_; refine xas rfl ?_; refine wpList_nil ?_; refine tn ?_; refine hK6 _ _ ?_; clear hK6 K6; refine wp_ret ?_
    replace H := H.keeps [1, 1] rfl; refine hQ _ _ _ ?_; refine r2 rfl rfl rfl H ?_
    exact ⟨by rw [hz]; rfl, rfl⟩
theorem c_do0 (r : Rec) : Fn Tryz.prog 5 [.pointer none, .agg (recV r).toArray] [] (Ret fun v L => v = .tuple #[.int .u64 0, .int .i64 8] ∧ L = []) := by
  refine Fn.intro Tryz.call5 Tryz.func5 rfl Tryz.ntmps5 rfl ?_; intro g w Q hQ H
  refine sq ?_; intro K1 hK1; refine wp_region_lit ?_; refine xbx H rfl rfl ?_; intro b2 w H; refine xbx H rfl rfl ?_; intro b3 w H; refine xas rfl ?_
  refine xas rfl ?_; refine wpList_nil ?_; refine tn ?_; refine hK1 _ _ ?_; clear hK1 K1; refine sq ?_; intro K2 hK2; refine sq ?_; intro K3 hK3
  refine wp_region_lit ?_
  refine xldb 1 H rfl rfl rfl ?_
  refine xpnz rfl rfl ?_
  refine wpList_nil ?_; refine tn ?_; refine hK3 _ _ ?_; clear hK3 K3; refine ift rfl ?_; refine sq ?_; intro K4 hK4; refine wp_region_lit ?_; refine xas rfl ?_
  refine xas rfl ?_; refine wpList_nil ?_; refine tn ?_; refine hK4 _ _ ?_; clear hK4 K4; refine wp_ret ?_; refine tr ?_; clear hK2 K2
  replace H := H.keeps [] rfl; refine hQ _ _ _ ?_; refine r2 rfl rfl rfl H ?_
  exact ⟨rfl, rfl⟩
theorem c_vcommit (μ : Mem) (v db lb : Nat) (l : Ledg) (W : Wal) (D : Dsk) (hW : W.ok) (hD : D.ok) :
    Fn Tryz.prog 9 [.pointer (some ⟨v, 0, none⟩)] [vltC μ v db (some lb) l, logC lb db W, dskC db D] (Ret fun x L => x = .int .i64 (commitW W D).1 ∧ L = [vltC μ v db (some lb) l, logC lb db (commitW W D).2.1, dskC db (commitW W D).2.2]) := by
  have hcm := c_wcommit lb db W D hW hD
  generalize commitW W D = CM at hcm ⊢
  refine Fn.intro Tryz.call9 Tryz.func9 rfl Tryz.ntmps9 rfl ?_; intro g w Q hQ H
  obtain ⟨ξ, ps, ao, cap, hμ, hL, H⟩ := H.unvlt
  refine sq ?_; intro K1 hK1; refine wp_region_lit ?_; refine xas rfl ?_; refine wpList_nil ?_; refine tn ?_; refine hK1 _ _ ?_; clear hK1 K1
  refine sq ?_; intro K2 hK2; refine sq ?_; intro K3 hK3; refine wp_region_lit ?_; refine xmv rfl ?_; refine xpns rfl rfl ?_; refine wpList_nil ?_
  refine tn ?_; refine hK3 _ _ ?_; clear hK3 K3; refine iff_ rfl ?_; refine wp_skip ?_; refine tn ?_; refine hK2 _ _ ?_; clear hK2 K2; refine sq ?_; intro K4 hK4
  refine wp_region_lit ?_; refine xmv rfl ?_
  refine xnc rfl ?_
  refine xfa rfl ?_
  refine xldb 1 H rfl rfl rfl ?_
  refine xc [2, 2] H (hcm) rfl rfl rfl rfl rfl ?_; rintro _ _ w ⟨rfl, rfl⟩ H; replace H := H.ap rfl
  replace H := St.tovlt hμ hL (H.front' [2, 2] rfl rfl)
  refine xas rfl ?_; refine wpList_nil ?_; refine tn ?_; refine hK4 _ _ ?_; clear hK4 K4; refine wp_ret ?_
  refine hQ _ _ _ ?_; refine r1 rfl rfl H ?_
  exact ⟨rfl, rfl⟩
theorem c_vcommit0 : Fn Tryz.prog 9 [.pointer none] [] (Ret fun v L => v = .int .i64 8 ∧ L = []) := by
  refine Fn.intro Tryz.call9 Tryz.func9 rfl Tryz.ntmps9 rfl ?_; intro g w Q hQ H
  refine sq ?_; intro K1 hK1; refine wp_region_lit ?_; refine xas rfl ?_; refine wpList_nil ?_; refine tn ?_; refine hK1 _ _ ?_; clear hK1 K1
  refine sq ?_; intro K2 hK2; refine sq ?_; intro K3 hK3; refine wp_region_lit ?_; refine xmv rfl ?_
  refine xpnz rfl rfl ?_
  refine wpList_nil ?_; refine tn ?_; refine hK3 _ _ ?_; clear hK3 K3; refine ift rfl ?_; refine sq ?_; intro K4 hK4; refine wp_region_lit ?_; refine xas rfl ?_
  refine wpList_nil ?_; refine tn ?_; refine hK4 _ _ ?_; clear hK4 K4; refine wp_ret ?_; refine tr ?_; clear hK2 K2
  refine hQ _ _ _ ?_; refine r1 rfl rfl H ?_
  exact ⟨rfl, rfl⟩
theorem c_vcompact0 : Fn Tryz.prog 10 [.pointer none] [] (Ret fun v L => v = .int .i64 8 ∧ L = []) := by
  refine Fn.intro Tryz.call10 Tryz.func10 rfl Tryz.ntmps10 rfl ?_; intro g w Q hQ H
  refine sq ?_; intro K1 hK1; refine wp_region_lit ?_; refine xas rfl ?_; refine wpList_nil ?_; refine tn ?_; refine hK1 _ _ ?_; clear hK1 K1
  refine sq ?_; intro K2 hK2; refine sq ?_; intro K3 hK3; refine wp_region_lit ?_; refine xmv rfl ?_
  refine xpnz rfl rfl ?_
  refine wpList_nil ?_; refine tn ?_; refine hK3 _ _ ?_; clear hK3 K3; refine ift rfl ?_; refine sq ?_; intro K4 hK4; refine wp_region_lit ?_; refine xas rfl ?_
  refine wpList_nil ?_; refine tn ?_; refine hK4 _ _ ?_; clear hK4 K4; refine wp_ret ?_; refine tr ?_; clear hK2 K2
  refine hQ _ _ _ ?_; refine r1 rfl rfl H ?_
  exact ⟨rfl, rfl⟩
theorem c_vsure0 : Fn Tryz.prog 11 [.pointer none] [] (Ret fun v L => v = .int .u64 0 ∧ L = []) := by
  refine Fn.intro Tryz.call11 Tryz.func11 rfl Tryz.ntmps11 rfl ?_; intro g w Q hQ H
  refine sq ?_; intro K1 hK1; refine wp_region_lit ?_; refine xas rfl ?_; refine wpList_nil ?_; refine tn ?_; refine hK1 _ _ ?_; clear hK1 K1
  refine sq ?_; intro K2 hK2; refine sq ?_; intro K3 hK3; refine wp_region_lit ?_; refine xmv rfl ?_
  refine xpnz rfl rfl ?_
  refine wpList_nil ?_; refine tn ?_; refine hK3 _ _ ?_; clear hK3 K3; refine ift rfl ?_; refine sq ?_; intro K4 hK4; refine wp_region_lit ?_; refine xas rfl ?_
  refine wpList_nil ?_; refine tn ?_; refine hK4 _ _ ?_; clear hK4 K4; refine wp_ret ?_; refine tr ?_; clear hK2 K2
  refine hQ _ _ _ ?_; refine r1 rfl rfl H ?_
  exact ⟨rfl, rfl⟩
theorem c_vnext0 : Fn Tryz.prog 12 [.pointer none] [] (Ret fun v L => v = .int .u64 0 ∧ L = []) := by
  refine Fn.intro Tryz.call12 Tryz.func12 rfl Tryz.ntmps12 rfl ?_; intro g w Q hQ H
  refine sq ?_; intro K1 hK1; refine wp_region_lit ?_; refine xas rfl ?_; refine wpList_nil ?_; refine tn ?_; refine hK1 _ _ ?_; clear hK1 K1
  refine sq ?_; intro K2 hK2; refine sq ?_; intro K3 hK3; refine wp_region_lit ?_; refine xmv rfl ?_
  refine xpnz rfl rfl ?_
  refine wpList_nil ?_; refine tn ?_; refine hK3 _ _ ?_; clear hK3 K3; refine ift rfl ?_; refine sq ?_; intro K4 hK4; refine wp_region_lit ?_; refine xas rfl ?_
  refine wpList_nil ?_; refine tn ?_; refine hK4 _ _ ?_; clear hK4 K4; refine wp_ret ?_; refine tr ?_; clear hK2 K2
  refine hQ _ _ _ ?_; refine r1 rfl rfl H ?_
  exact ⟨rfl, rfl⟩
theorem c_vwaits0 : Fn Tryz.prog 13 [.pointer none] [] (Ret fun v L => v = .int .i64 0 ∧ L = []) := by
  refine Fn.intro Tryz.call13 Tryz.func13 rfl Tryz.ntmps13 rfl ?_; intro g w Q hQ H
  refine sq ?_; intro K1 hK1; refine wp_region_lit ?_; refine xas rfl ?_; refine wpList_nil ?_; refine tn ?_; refine hK1 _ _ ?_; clear hK1 K1
  refine sq ?_; intro K2 hK2; refine sq ?_; intro K3 hK3; refine wp_region_lit ?_; refine xmv rfl ?_
  refine xpnz rfl rfl ?_
  refine wpList_nil ?_; refine tn ?_; refine hK3 _ _ ?_; clear hK3 K3; refine ift rfl ?_; refine sq ?_; intro K4 hK4; refine wp_region_lit ?_; refine xas rfl ?_
  refine wpList_nil ?_; refine tn ?_; refine hK4 _ _ ?_; clear hK4 K4; refine wp_ret ?_; refine tr ?_; clear hK2 K2
  refine hQ _ _ _ ?_; refine r1 rfl rfl H ?_
  exact ⟨rfl, rfl⟩
theorem c_vledger0 : Fn Tryz.prog 17 [.pointer none] [] (Ret fun v L => v = .agg (ledV ⟨0, []⟩ none 0).toArray ∧ L = []) := by
  refine Fn.intro Tryz.call17 Tryz.func17 rfl Tryz.ntmps17 rfl ?_; intro g w Q hQ H
  refine sq ?_; intro K1 hK1; refine wp_region_lit ?_; refine xal H ?_; intro b2 w H; refine wpList_nil ?_; refine tn ?_; refine hK1 _ _ ?_; clear hK1 K1
  refine sq ?_; intro K2 hK2; refine sq ?_; intro K3 hK3; refine wp_region_lit ?_; refine xmv rfl ?_
  refine xpnz rfl rfl ?_
  refine wpList_nil ?_; refine tn ?_; refine hK3 _ _ ?_; clear hK3 K3; refine ift rfl ?_; refine sq ?_; intro K4 hK4; refine wp_region_lit ?_; refine xbu rfl ?_
  (refine xsta 0 H rfl rfl rfl rfl rfl rfl ?_; intro w H)
  refine wpList_nil ?_; refine tn ?_; refine hK4 _ _ ?_; clear hK4 K4; refine wp_ret ?_; refine tr ?_; clear hK2 K2
  refine hQ _ _ _ ?_
  refine rca 0 [] rfl rfl H rfl (blk_cells (k := 2) rfl rfl) rfl rfl ?_
  exact ⟨rfl, rfl⟩
theorem c_vaccount0 (t : List UInt8) : Fn Tryz.prog 15 [.pointer none, .string (str t)] [] (Ret fun v L => v = .agg (acctV (newA []) none 0 none 0).toArray ∧ L = []) := by
  refine Fn.intro Tryz.call15 Tryz.func15 rfl Tryz.ntmps15 rfl ?_; intro g w Q hQ H
  refine sq ?_; intro K1 hK1; refine wp_region_lit ?_; refine xal H ?_; intro b4 w H; refine wpList_nil ?_; refine tn ?_; refine hK1 _ _ ?_; clear hK1 K1
  refine sq ?_; intro K2 hK2; refine sq ?_; intro K3 hK3; refine wp_region_lit ?_; refine xmv rfl ?_
  refine xpnz rfl rfl ?_
  refine wpList_nil ?_; refine tn ?_; refine hK3 _ _ ?_; clear hK3 K3; refine ift rfl ?_; refine sq ?_; intro K4 hK4; refine wp_region_lit ?_; refine xbu rfl ?_
  (refine xsta 0 H rfl rfl rfl rfl rfl rfl ?_; intro w H)
  refine wpList_nil ?_; refine tn ?_; refine hK4 _ _ ?_; clear hK4 K4; refine wp_ret ?_; refine tr ?_; clear hK2 K2
  refine hQ _ _ _ ?_
  refine rca 0 [] rfl rfl H rfl (blk_cells (k := 7) rfl rfl) rfl rfl ?_
  exact ⟨rfl, rfl⟩
theorem c_vaccount (μ : Mem) (v db : Nat) (lp : Option Nat) (l : Ledg) (t : List UInt8) :
    Fn Tryz.prog 15 [.pointer (some ⟨v, 0, none⟩), .string (str t)] [vltC μ v db lp l] (Ret fun x L => ∃ lo lc co cc, x = .agg (acctV (l.find t) lo lc co cc).toArray ∧
      L = [own lo lc leaseT 2 (l.find t).leases.length (leasesV (l.find t).leases), own co cc stmtT 6 (l.find t).closed.length (closedV (l.find t).closed), vltC μ v db lp l]) := by
  refine Fn.intro Tryz.call15 Tryz.func15 rfl Tryz.ntmps15 rfl ?_; intro g w Q hQ H
  obtain ⟨ξ, ps, ao, cap, hμ, hL, H⟩ := H.unvlt
  refine sq ?_; intro K1 hK1; refine wp_region_lit ?_; refine xal H ?_; intro b4 w H; refine wpList_nil ?_; refine tn ?_; refine hK1 _ _ ?_; clear hK1 K1
  refine sq ?_; intro K2 hK2; refine sq ?_; intro K3 hK3; refine wp_region_lit ?_; refine xmv rfl ?_; refine xpns rfl rfl ?_; refine wpList_nil ?_
  refine tn ?_; refine hK3 _ _ ?_; clear hK3 K3; refine iff_ rfl ?_; refine wp_skip ?_; refine tn ?_; refine hK2 _ _ ?_; clear hK2 K2; refine sq ?_; intro K4 hK4
  refine wp_region_lit ?_; refine xmv rfl ?_
  refine xnc rfl ?_
  refine xfa rfl ?_
  refine xldab 2 H rfl rfl rfl rfl ?_
  refine xmv rfl ?_
  refine xc [1] H ((c_lfind (imm ξ) l ps ao cap t hL)) rfl rfl rfl rfl rfl ?_; rintro _ _ w ⟨lo, lc, co, cc, rfl, rfl⟩ H; replace H := H.ap rfl
  (refine xsta 3 H rfl rfl rfl rfl rfl rfl ?_; intro w H)
  refine wpList_nil ?_; refine tn ?_; refine hK4 _ _ ?_; clear hK4 K4; refine wp_ret ?_
  replace H := St.tovlt hμ hL (H.front' [3, 3] rfl rfl)
  refine hQ _ _ _ ?_
  refine rca 1 [2, 2, 0] rfl rfl H rfl (blk_cells (k := 7) rfl rfl) rfl rfl ?_
  exact ⟨lo, lc, co, cc, rfl, rfl⟩
end Go.Proofs.YtegllbmkkfnajaaGreatDoor
end
section
namespace Go.Proofs.YtegllbmkkfnajaaGreatDoor
open Go Go.Proofs
set_option maxRecDepth 100000
def rCap : Rec := ⟨0, 1, [97], 0, 50, 0⟩
def rRes : Rec := ⟨0, 3, [97], 1, 24, 0⟩
def W0 : Wal := ⟨1, 1, 0, []⟩
def awL1 : Ledg := ⟨1, [⟨[97], 50, 0, 0, 0, [], []⟩]⟩
def awL2 : Ledg := ⟨2, [⟨[97], 50, 0, 0, 0, [⟨1, 24⟩], []⟩]⟩
def W1 : Wal := ⟨1, 2, 0, [{ rCap with seq := 1 }]⟩
def W2 : Wal := ⟨1, 3, 0, [{ rCap with seq := 1 }, { rRes with seq := 2 }]⟩
theorem aw1 : vputV ⟨0, []⟩ W0 rCap = ((1, 0), awL1, W1) := by kernel_rfl
theorem aw2 : vputV awL1 W1 rRes = ((2, 0), awL2, W2) := by kernel_rfl
def awB : List UInt8 := (gatherR W2.waits []).2
def D0 : Dsk := newD 1000
def awD : Dsk := { files := [⟨segName 1, awB, awB.length⟩], cap := 1000, calls := 2, armed := false, left := 0, keep := 0, down := false }
theorem aw6 : commitW W2 D0 = (0, { W2 with waits := [], sure := 2 }, awD) := by kernel_rfl
def awE : Dsk := { crashD awD 0 with down := false }
theorem aw7 : awE = awD := by kernel_rfl
theorem aw9 : (awD.list) = [segName 1] := by kernel_rfl
theorem aw10 : bootV D0 = .ok (⟨0, []⟩, W0, D0) := by kernel_rfl
def awY : Ledg × Wal × Dsk := match bootV awD with | .ok y => y | .error _ => (⟨0, []⟩, W0, D0)
theorem aw11 : bootV awD = .ok awY := by kernel_rfl
theorem aw12 : (awY.1.find [97]).used = 24 := by kernel_rfl
theorem aw15 : snapV (clearV awD).2 = .ok ⟨0, []⟩ := by kernel_rfl
theorem aw16 : openW (clearV awD).2 ((0 + 1) % 18446744073709551616) = .ok (⟨2, 3, 2, []⟩, [{ rCap with seq := 1 }, { rRes with seq := 2 }]) := by kernel_rfl
theorem aw18 : (clearV awD).2 = awD := by kernel_rfl
theorem aw19 : comeAll 0 ⟨0, []⟩ [{ rCap with seq := 1 }, { rRes with seq := 2 }] = some awL2 := by kernel_rfl
theorem emptyOk (c : Int) (h : c ≤ 1099511627000) : (newD c).ok := by
  refine ⟨by simp [newD], by simp [newD], by simp [newD, Dsk.size], ?_, by simp [newD], by simp [newD], by simp [newD]⟩
  show (max c 0).toNat ≤ _
  omega
theorem clear_empty {D : Dsk} (h : D.files = []) : (clearV D).2 = D := by
  unfold clearV readD
  by_cases hd : D.down = true
  · rw [if_pos hd]; rfl
  · rw [if_neg hd, h]; rfl
theorem empty_open {D : Dsk} (hf : D.files = []) {l0 : Ledg} {x : Wal × List Rec} (h1 : snapV D = .ok l0) (h2 : openW D ((l0.seq + 1) % 18446744073709551616) = .ok x) : l0 = ⟨0, []⟩ ∧ x = (W0, []) := by
  have hl : D.list = [] := by unfold Dsk.list; rw [hf]; simp
  by_cases hd : D.down = true
  · have : snapV D = .error 19 := by unfold snapV readD; rw [if_pos hd]; rfl
    rw [this] at h1; cases h1
  · have : snapV D = .ok ⟨0, []⟩ := by unfold snapV readD; rw [if_neg hd, hf]; rfl
    rw [this] at h1; cases h1
    refine ⟨rfl, ?_⟩
    unfold openW at h2
    rw [if_neg hd, hl] at h2
    cases h2
    rfl
theorem emptyBoots {D : Dsk} (h : D.ok) (hf : D.files = []) : Boots D := by
  have hc := clear_empty hf
  have hl : D.list = [] := by unfold Dsk.list; rw [hf]; simp
  refine ⟨h, ?_, ?_, ?_⟩
  · rw [hc]
    refine ⟨h, by simp [hf], by rw [hl]; simp [segNums], ?_, by rw [hf]; simp⟩
    rw [hf]; have := h.cap; simp; omega
  · rw [hc]
    intro l0 x h1 h2
    obtain ⟨rfl, rfl⟩ := empty_open hf h1 h2
    decide
  · rw [hc]
    intro l0 x l1 h1 h2 h3
    obtain ⟨rfl, rfl⟩ := empty_open hf h1 h2
    simp only [comeAll, Option.some.injEq] at h3
    subst h3
    decide
theorem awOk : awD.ok := by
  refine ⟨by decide, ?_, by decide, by decide, by decide, by decide, by decide⟩
  intro f hf
  have : f = ⟨segName 1, awB, awB.length⟩ := by simpa [awD] using hf
  rw [this]; exact Nat.le_refl _
theorem bootsD : Boots awD := by
  refine ⟨awOk, ?_, ?_, ?_⟩
  · rw [aw18]
    refine ⟨awOk, ?_, ?_, by decide, by decide⟩
    · intro f hf
      have : f = ⟨segName 1, awB, awB.length⟩ := by simpa [awD] using hf
      rw [this]; decide
    · rw [aw9]; decide
  · intro l0 x h1 h2
    rw [aw15] at h1; cases h1
    rw [aw16] at h2; cases h2
    decide
  · intro l0 x l1 h1 h2 h3
    rw [aw15] at h1; cases h1
    rw [aw16] at h2; cases h2
    rw [aw19] at h3; cases h3
    decide
theorem rCapOk : rCap.ok := ⟨by decide, by decide, by decide, by decide, by decide⟩
theorem rResOk : rRes.ok := ⟨by decide, by decide, by decide, by decide, by decide⟩
theorem W0ok : W0.ok := ⟨by decide, by decide, by decide, by simp [W0], by decide⟩
theorem W1ok : W1.ok := by have := vputV_ok (l := ⟨0, []⟩) W0ok rCapOk (by decide); rwa [aw1] at this
theorem W2ok : W2.ok := by have := vputV_ok (l := awL1) W1ok rResOk (by decide); rwa [aw2] at this
end Go.Proofs.YtegllbmkkfnajaaGreatDoor
end
section
namespace Go.Proofs.YtegllbmkkfnajaaGreatDoor
open Go Go.RowKit
section
variable {P : Program} {ops : Array Oper} {Q : Exit → Act → World → Prop} {rest : List Oper} {n d ty : Nat} {pos : String} {af : Array Edge} {ρ : Env} {ds : List Deferred} {w : World}
theorem yfs {x : Operand} {T i o : Nat} {vs : List Value} {v : Value} {fs : Array Field} {f : Field} (hT : P.underlying T = some (.struct fs)) (hf : fs[i]? = some f) (ho : f.offset = o) (ha : ∀ w, (isAgg f.type).run P w = .ok false w) (hx : ev n ρ x = some (.agg vs.toArray)) (hv : nthV vs o = some v) (w : World) :
    (execOp (mk n ρ ds).eval ⟨some d, .field T x i, ty, pos, af, none⟩).run P w = .ok (.value v) w := by
  subst ho
  rw [nthV_eq] at hv
  simp [execOp, mk_eval hx, Instr.field, run_underlying hT, hf, asAgg, part, ha, hv]
theorem xfs {x : Operand} {T i o : Nat} {vs : List Value} {v : Value} {fs : Array Field} {f : Field} (hT : P.underlying T = some (.struct fs)) (hf : fs[i]? = some f) (ho : f.offset = o) (ha : ∀ w, (isAgg f.type).run P w = .ok false w) (hx : ev n ρ x = some (.agg vs.toArray)) (hv : nthV vs o = some v)
    (h : wpList P ops Q rest (mk n (upd ρ d v) ds) w) : wpList P ops Q (⟨some d, .field T x i, ty, pos, af, none⟩ :: rest) (mk n ρ ds) w :=
  st_val (yfs hT hf ho ha hx hv w) h
end
end Go.Proofs.YtegllbmkkfnajaaGreatDoor
end
section
namespace Go.Proofs.YtegllbmkkfnajaaGreatDoor
open Go Go.Proofs
attribute [local irreducible] Go.wpList Go.Code.wp St Fn mk
set_option maxRecDepth 20000
theorem c_awake (μ : Mem) (hT : Tab (imm μ)) : Fn Tryz.prog 4 [] [imm μ] (Ret fun v L => v = .bool true ∧ L = [immC μ]) := by
  have hb0 := fun ν (h : Tab (imm ν)) db => c_Boot ν h db D0 (emptyBoots (emptyOk 1000 (by decide)) rfl)
  rw [aw10] at hb0
  have hb1 := fun ν (h : Tab (imm ν)) db => c_Boot ν h db awD bootsD
  rw [aw11] at hb1
  have hd1 := fun v db lb => c_do μ hT v db lb ⟨0, []⟩ W0 rCap ⟨by decide, by decide⟩ rCapOk W0ok
  rw [aw1] at hd1
  have hd2 := fun v db lb => c_do μ hT v db lb awL1 W1 rRes ⟨by decide, by decide⟩ rResOk W1ok
  rw [aw2] at hd2
  have hc := fun v db lb => c_vcommit μ v db lb awL2 W2 D0 W2ok (emptyOk 1000 (by decide))
  rw [aw6] at hc
  have hcr := fun db => c_crash db awD 0 awOk
  have hup := fun db => c_dup db (crashD awD 0)
  rw [show ({ crashD awD 0 with down := false } : Dsk) = awD from aw7] at hup
  refine Fn.intro Tryz.call4 Tryz.func4 rfl Tryz.ntmps4 rfl ?_; intro g w Q hQ H
  refine sq ?_; intro K1 hK1; refine wp_region_lit ?_; refine xas rfl ?_; refine wpList_nil ?_; refine tn ?_; refine hK1 _ _ ?_; clear hK1 K1
  refine sq ?_; intro K2 hK2; refine wp_region_lit ?_
  refine xc [] H ((c_dnew 1000)) rfl rfl rfl rfl rfl ?_; rintro _ _ w ⟨db, rfl, rfl⟩ H; replace H := H.ap rfl
  refine xas rfl ?_; refine wpList_nil ?_; refine tn ?_; refine hK2 _ _ ?_; clear hK2 K2; refine sq ?_; intro K3 hK3; refine wp_region_lit ?_; refine xmv rfl ?_
  refine xc [1, 0] H ((hb0 μ hT db)) rfl rfl rfl rfl rfl ?_; rintro _ _ w ⟨v, lb, rfl, rfl⟩ H; replace H := H.ap rfl
  refine xmv rfl ?_; refine xex rfl rfl ?_; refine xex rfl rfl ?_; refine xas rfl ?_; refine xas rfl ?_; refine wpList_nil ?_
  refine tn ?_; refine hK3 _ _ ?_; clear hK3 K3; refine sq ?_; intro K4 hK4; refine wp_region_lit ?_; refine xmv rfl ?_; refine xbu rfl ?_
  replace H : St g w [vltC μ v db (some lb) ⟨0, []⟩, logC lb db W0, dskC db D0] := H
  refine xc [0, 0] H ((hd1 v db lb)) rfl rfl rfl rfl rfl ?_; rintro _ _ w ⟨rfl, rfl⟩ H; replace H := H.ap rfl
  refine wpList_nil ?_; refine tn ?_; refine hK4 _ _ ?_; clear hK4 K4; refine sq ?_; intro K5 hK5; refine wp_region_lit ?_; refine xmv rfl ?_; refine xbu rfl ?_
  refine xc [0, 0] H ((hd2 v db lb)) rfl rfl rfl rfl rfl ?_; rintro _ _ w ⟨rfl, rfl⟩ H; replace H := H.ap rfl
  refine wpList_nil ?_; refine tn ?_; refine hK5 _ _ ?_; clear hK5 K5; refine sq ?_; intro K6 hK6; refine wp_region_lit ?_; refine xmv rfl ?_
  refine xc [0, 0, 0] H ((hc v db lb)) rfl rfl rfl rfl rfl ?_; rintro _ _ w ⟨rfl, rfl⟩ H; replace H := H.ap rfl
  refine xas rfl ?_; refine wpList_nil ?_; refine tn ?_; refine hK6 _ _ ?_; clear hK6 K6; refine sq ?_; intro K7 hK7; refine wp_region_lit ?_; refine xmv rfl ?_
  refine xc [2] H ((hcr db)) rfl rfl rfl rfl rfl ?_; rintro _ _ w ⟨rfl, rfl⟩ H; replace H := H.ap rfl
  refine wpList_nil ?_; refine tn ?_; refine hK7 _ _ ?_; clear hK7 K7; refine sq ?_; intro K8 hK8; refine wp_region_lit ?_; refine xmv rfl ?_
  refine xc [0] H ((hup db)) rfl rfl rfl rfl rfl ?_; rintro _ _ w ⟨rfl, rfl⟩ H; replace H := H.ap rfl
  obtain ⟨ν, ps, ao, cap, hμ, hL, H⟩ := (H.front' [1] rfl rfl).unvlt
  refine wpList_nil ?_; refine tn ?_; refine hK8 _ _ ?_; clear hK8 K8; refine sq ?_; intro K9 hK9; refine wp_region_lit ?_; refine xmv rfl ?_
  refine xc [0, 1] H ((hb1 ν (hT.up hμ.sees) db)) rfl rfl rfl rfl rfl ?_; rintro _ _ w ⟨v2, lb2, rfl, rfl⟩ H; replace H := H.ap rfl
  refine xmv rfl ?_; refine xex rfl rfl ?_; refine xex rfl rfl ?_; refine xas rfl ?_; refine xas rfl ?_; refine wpList_nil ?_
  refine tn ?_; refine hK9 _ _ ?_; clear hK9 K9; refine sq ?_; intro K10 hK10; refine wp_region_lit ?_; refine xmv rfl ?_; refine xeq rfl rfl ?_; refine xmv rfl ?_
  refine xgy rfl rfl rfl ?_; refine xmv rfl ?_; refine xgy rfl rfl rfl ?_; refine xeq rfl rfl ?_; refine xpkt rfl rfl ?_; refine xmv rfl ?_
  refine xgy rfl rfl rfl ?_; refine xmv rfl ?_; refine xgy rfl rfl rfl ?_; refine xeq rfl rfl ?_; refine xpkt rfl rfl ?_; refine xmv rfl ?_
  refine xgy rfl rfl rfl ?_; refine xmv rfl ?_; refine xgy rfl rfl rfl ?_
  refine xc [0] H ((c_vaccount ν v2 db (some lb2) awY.1 [97])) rfl rfl rfl rfl rfl ?_; rintro _ _ w ⟨lo, lc, co, cc, rfl, rfl⟩ H; replace H := H.ap rfl
  have h24 := aw12
  generalize awY.1.find [97] = fa at H h24 ⊢
  refine xgy rfl rfl rfl ?_; refine xfs Tryz.underlying42 rfl (o := 2) rfl Tryz.isAgg22 rfl rfl ?_; refine xgy rfl rfl rfl ?_; refine xeq rfl rfl ?_
  refine xpkt rfl rfl ?_; refine xas rfl ?_; refine wpList_nil ?_; refine tn ?_; refine hK10 _ _ ?_; clear hK10 K10; refine wp_ret ?_
  obtain ⟨ξ, hξ, H⟩ := ((H.front' [2] rfl rfl).vltimm).unimm
  replace H := St.toimmC (hμ.trans hξ) H
  replace H := H.keeps [0] rfl; refine hQ _ _ _ ?_; refine r1 rfl rfl H ?_
  exact ⟨by rw [h24]; rfl, rfl⟩
end Go.Proofs.YtegllbmkkfnajaaGreatDoor
end
section
namespace Go.Proofs.YtegllbmkkfnajaaGreatDoor
open Go Go.Proofs
attribute [local irreducible] Go.wpList Go.Code.wp St Fn mk
set_option maxRecDepth 20000
theorem c_same15e (t : List UInt8) (lo co lo' co' : Option Addr) (lc cc lc' cc' : Nat) :
    Fn Tryz.prog 14 [.agg (acctV (newA t) lo lc co cc).toArray, .agg (acctV (newA t) lo' lc' co' cc').toArray] [] (Ret fun v L => v = .bool true ∧ L = []) := by
  refine Fn.intro Tryz.call14 Tryz.func14 rfl Tryz.ntmps14 rfl ?_; intro g w Q hQ H
  refine sq ?_; intro K1 hK1; refine wp_region_lit ?_; refine xbx H rfl rfl ?_; intro b2 w H; refine xbx H rfl rfl ?_; intro b3 w H; refine xas rfl ?_
  refine wpList_nil ?_; refine tn ?_; refine hK1 _ _ ?_; clear hK1 K1; refine sq ?_; intro K2 hK2; refine sq ?_; intro K3 hK3; refine wp_region_lit ?_
  refine xfa rfl ?_
  refine xldb 1 H rfl rfl rfl ?_
  refine xfa rfl ?_
  refine xldb 0 H rfl rfl rfl ?_
  refine xsneS rfl rfl ?_
  refine xmv rfl ?_
  rw [show (!(newA t).tenant == (newA t).tenant) = false by simp]
  refine xgy rfl rfl rfl ?_; refine xfa rfl ?_; refine xgy rfl rfl rfl ?_
  refine xldb 1 H rfl rfl rfl ?_
  refine xgy rfl rfl rfl ?_; refine xfa rfl ?_; refine xgy rfl rfl rfl ?_
  refine xldb 0 H rfl rfl rfl ?_
  refine xgy rfl rfl rfl ?_; refine xne rfl rfl ?_; refine xpkf rfl rfl ?_; refine xmv rfl ?_; refine xgy rfl rfl rfl ?_; refine xfa rfl ?_
  refine xgy rfl rfl rfl ?_
  refine xldb 1 H rfl rfl rfl ?_
  refine xgy rfl rfl rfl ?_; refine xfa rfl ?_; refine xgy rfl rfl rfl ?_
  refine xldb 0 H rfl rfl rfl ?_
  refine xgy rfl rfl rfl ?_; refine xne rfl rfl ?_; refine xpkf rfl rfl ?_; refine xmv rfl ?_; refine xgy rfl rfl rfl ?_; refine xfa rfl ?_
  refine xgy rfl rfl rfl ?_
  refine xldb 1 H rfl rfl rfl ?_
  refine xgy rfl rfl rfl ?_; refine xfa rfl ?_; refine xgy rfl rfl rfl ?_
  refine xldb 0 H rfl rfl rfl ?_
  refine xgy rfl rfl rfl ?_; refine xne rfl rfl ?_; refine xpkf rfl rfl ?_; refine xmv rfl ?_; refine xgy rfl rfl rfl ?_; refine xfa rfl ?_
  refine xgy rfl rfl rfl ?_
  refine xldb 1 H rfl rfl rfl ?_
  refine xgy rfl rfl rfl ?_; refine xfa rfl ?_; refine xgy rfl rfl rfl ?_
  refine xldb 0 H rfl rfl rfl ?_
  refine xgy rfl rfl rfl ?_; refine xne rfl rfl ?_; refine xpkf rfl rfl ?_; refine xmv rfl ?_; refine xgy rfl rfl rfl ?_; refine xfa rfl ?_
  refine xgy rfl rfl rfl ?_
  refine xldb 1 H rfl rfl rfl ?_
  refine xgy rfl rfl rfl ?_; refine xli rfl ?_; refine xgy rfl rfl rfl ?_; refine xfa rfl ?_; refine xgy rfl rfl rfl ?_
  refine xldb 0 H rfl rfl rfl ?_
  refine xgy rfl rfl rfl ?_; refine xli rfl ?_; refine xgy rfl rfl rfl ?_; refine xne rfl rfl ?_; refine xpkf rfl rfl ?_; refine xmv rfl ?_
  refine xgy rfl rfl rfl ?_; refine xfa rfl ?_; refine xgy rfl rfl rfl ?_
  refine xldb 1 H rfl rfl rfl ?_
  refine xgy rfl rfl rfl ?_; refine xli rfl ?_; refine xgy rfl rfl rfl ?_; refine xfa rfl ?_; refine xgy rfl rfl rfl ?_
  refine xldb 0 H rfl rfl rfl ?_
  refine xgy rfl rfl rfl ?_; refine xli rfl ?_; refine xgy rfl rfl rfl ?_; refine xne rfl rfl ?_; refine xpkf rfl rfl ?_; refine wpList_nil ?_
  refine tn ?_; refine hK3 _ _ ?_; clear hK3 K3; refine iff_ rfl ?_; refine wp_skip ?_; refine tn ?_; refine hK2 _ _ ?_; clear hK2 K2; refine sq ?_; intro K4 hK4
  refine sq ?_; intro K5 hK5; refine wp_region_lit ?_; refine xas rfl ?_; refine wpList_nil ?_; refine tn ?_; refine hK5 _ _ ?_; clear hK5 K5; refine wp_block ?_
  refine lp (α := Unit) (fun u => [(2, .pointer (some ⟨b2, 0, none⟩)), (3, .pointer (some ⟨b3, 0, none⟩)), (5, .int .i64 0)]) (fun u => [blk b3 (acctV (newA t) lo' lc' co' cc') 42, blk b2 (acctV (newA t) lo lc co cc) 42]) (fun u => True) (fun u => 0) (()) ⟨rfl, rfl, rfl, True.intro⟩ (trivial) H ?_; intro u ρ w hI H K6 hK6
  refine sq ?_; intro K7 hK7; refine sq ?_; intro K8 hK8; refine wp_region_lit ?_; refine xmv rfl ?_; refine xfa rfl ?_
  refine xldb 1 H rfl rfl rfl ?_
  refine xli rfl ?_; refine xlt rfl rfl ?_; refine wpList_nil ?_; refine tn ?_; refine hK8 _ _ ?_; clear hK8 K8; refine iff_ rfl ?_; refine wp_exit ?_
  refine te ?_; clear hK7 K7; refine te ?_; clear hK6 K6; refine be ?_; refine tn ?_; refine hK4 _ _ ?_; clear hK4 K4; refine sq ?_; intro K9 hK9
  refine sq ?_; intro K10 hK10; refine wp_region_lit ?_; refine xas rfl ?_; refine wpList_nil ?_; refine tn ?_; refine hK10 _ _ ?_; clear hK10 K10
  refine wp_block ?_
  refine lp (α := Unit) (fun u => [(2, .pointer (some ⟨b2, 0, none⟩)), (3, .pointer (some ⟨b3, 0, none⟩)), (6, .int .i64 0)]) (fun u => [blk b3 (acctV (newA t) lo' lc' co' cc') 42, blk b2 (acctV (newA t) lo lc co cc) 42]) (fun u => True) (fun u => 0) (()) ⟨rfl, rfl, rfl, True.intro⟩ (trivial) H ?_; intro u ρ w hI H K11 hK11
  refine sq ?_; intro K12 hK12; refine sq ?_; intro K13 hK13; refine wp_region_lit ?_; refine xmv rfl ?_; refine xfa rfl ?_
  refine xldb 1 H rfl rfl rfl ?_
  refine xli rfl ?_; refine xlt rfl rfl ?_; refine wpList_nil ?_; refine tn ?_; refine hK13 _ _ ?_; clear hK13 K13; refine iff_ rfl ?_; refine wp_exit ?_
  refine te ?_; clear hK12 K12; refine te ?_; clear hK11 K11; refine be ?_; refine tn ?_; refine hK9 _ _ ?_; clear hK9 K9; refine sq ?_; intro K14 hK14
  refine wp_region_lit ?_; refine xas rfl ?_; refine wpList_nil ?_; refine tn ?_; refine hK14 _ _ ?_; clear hK14 K14; refine wp_ret ?_
  replace H := H.keeps [] rfl; refine hQ _ _ _ ?_; refine r1 rfl rfl H ?_
  exact ⟨rfl, rfl⟩
theorem c_same16e : Fn Tryz.prog 16 [.agg (ledV ⟨0, []⟩ none 0).toArray, .agg (ledV ⟨0, []⟩ none 0).toArray] [] (Ret fun v L => v = .bool true ∧ L = []) := by
  refine Fn.intro Tryz.call16 Tryz.func16 rfl Tryz.ntmps16 rfl ?_; intro g w Q hQ H
  refine sq ?_; intro K1 hK1; refine wp_region_lit ?_; refine xbx H rfl rfl ?_; intro b2 w H; refine xbx H rfl rfl ?_; intro b3 w H; refine xas rfl ?_
  refine wpList_nil ?_; refine tn ?_; refine hK1 _ _ ?_; clear hK1 K1; refine sq ?_; intro K2 hK2; refine sq ?_; intro K3 hK3; refine wp_region_lit ?_
  refine xfa rfl ?_
  refine xldb 1 H rfl rfl rfl ?_
  refine xfa rfl ?_
  refine xldb 0 H rfl rfl rfl ?_
  refine xne rfl rfl ?_; refine xmv rfl ?_; refine xgy rfl rfl rfl ?_; refine xfa rfl ?_; refine xgy rfl rfl rfl ?_
  refine xldb 1 H rfl rfl rfl ?_
  refine xgy rfl rfl rfl ?_; refine xli rfl ?_; refine xgy rfl rfl rfl ?_; refine xfa rfl ?_; refine xgy rfl rfl rfl ?_
  refine xldb 0 H rfl rfl rfl ?_
  refine xgy rfl rfl rfl ?_; refine xli rfl ?_; refine xgy rfl rfl rfl ?_; refine xne rfl rfl ?_; refine xpkf rfl rfl ?_; refine wpList_nil ?_
  refine tn ?_; refine hK3 _ _ ?_; clear hK3 K3; refine iff_ rfl ?_; refine wp_skip ?_; refine tn ?_; refine hK2 _ _ ?_; clear hK2 K2; refine sq ?_; intro K4 hK4
  refine sq ?_; intro K5 hK5; refine wp_region_lit ?_; refine xas rfl ?_; refine wpList_nil ?_; refine tn ?_; refine hK5 _ _ ?_; clear hK5 K5; refine wp_block ?_
  refine lp (α := Unit) (fun u => [(2, .pointer (some ⟨b2, 0, none⟩)), (3, .pointer (some ⟨b3, 0, none⟩)), (5, .int .i64 0)]) (fun u => [blk b3 (ledV ⟨0, []⟩ none 0) ledT, blk b2 (ledV ⟨0, []⟩ none 0) ledT]) (fun u => True) (fun u => 0) (()) ⟨rfl, rfl, rfl, True.intro⟩ (trivial) H ?_; intro u ρ w hI H K6 hK6
  refine sq ?_; intro K7 hK7; refine sq ?_; intro K8 hK8; refine wp_region_lit ?_; refine xmv rfl ?_; refine xfa rfl ?_
  refine xldb 1 H rfl rfl rfl ?_
  refine xli rfl ?_; refine xlt rfl rfl ?_; refine wpList_nil ?_; refine tn ?_; refine hK8 _ _ ?_; clear hK8 K8; refine iff_ rfl ?_; refine wp_exit ?_
  refine te ?_; clear hK7 K7; refine te ?_; clear hK6 K6; refine be ?_; refine tn ?_; refine hK4 _ _ ?_; clear hK4 K4; refine sq ?_; intro K9 hK9
  refine wp_region_lit ?_; refine xas rfl ?_; refine wpList_nil ?_; refine tn ?_; refine hK9 _ _ ?_; clear hK9 K9; refine wp_ret ?_
  replace H := H.keeps [] rfl; refine hQ _ _ _ ?_; refine r1 rfl rfl H ?_
  exact ⟨rfl, rfl⟩
end Go.Proofs.YtegllbmkkfnajaaGreatDoor
end
section
namespace Go.Proofs.YtegllbmkkfnajaaGreatDoor
open Go Go.Proofs
attribute [local irreducible] Go.wpList Go.Code.wp St Fn mk
set_option maxRecDepth 20000
def nbD : Dsk := newD 9
def nbC : Dsk := crashD nbD 0
theorem nb1 : bootV nbD = .ok (⟨0, []⟩, W0, nbD) := by kernel_rfl
theorem nb2 : bootV nbC = .error (19, nbC) := by kernel_rfl
theorem nbOk : nbD.ok := emptyOk 9 (by decide)
theorem nbCOk : nbC.ok := ⟨by decide, by simp [nbC, nbD, crashD, newD], by decide, by decide, by decide, by decide, by decide⟩
theorem find_none (t : List UInt8) : (⟨0, []⟩ : Ledg).find t = newA t := by
  unfold Ledg.find
  rw [if_neg (by simp [placeB])]
theorem c_nobody (μ : Mem) (hT : Tab (imm μ)) (r : Rec) (t : List UInt8) :
    Fn Tryz.prog 3 [.agg (recV r).toArray, .string (str t)] [imm μ] (Ret fun v L => v = .bool true ∧ L = [immC μ]) := by
  have hb0 := fun ν (h : Tab (imm ν)) db => c_Boot ν h db nbD (emptyBoots nbOk rfl)
  rw [nb1] at hb0
  have hb1 := fun ν (h : Tab (imm ν)) db => c_Boot ν h db nbC (emptyBoots nbCOk rfl)
  rw [nb2] at hb1
  have hcr : ∀ db, Fn Tryz.prog 8 [.pointer (some ⟨db, 0, none⟩), .int .i64 0] [dskC db nbD] (Ret fun v L => v = .tuple #[] ∧ L = [dskC db nbC]) := fun db => c_crash db nbD 0 nbOk
  refine Fn.intro Tryz.call3 Tryz.func3 rfl Tryz.ntmps3 rfl ?_; intro g w Q hQ H
  refine sq ?_; intro K1 hK1; refine wp_region_lit ?_; refine xbx H rfl rfl ?_; intro b2 w H; refine xas rfl ?_; refine wpList_nil ?_
  refine tn ?_; refine hK1 _ _ ?_; clear hK1 K1; refine sq ?_; intro K2 hK2; refine sq ?_; intro K3 hK3; refine wp_region_lit ?_; refine xfa rfl ?_
  refine xldb 0 H rfl rfl rfl ?_
  refine xlsS rfl ?_
  refine xgt rfl rfl ?_; refine xmv rfl ?_; refine jor (b := ?b1) 4 19 [20, 21, 22] 23 rfl rfl H (fun hhc1 hc1 => ?a1) (fun hhc1 hc1 => ?o1) ?_
  case a1 =>
    refine xgy rfl rfl rfl ?_; refine xmv rfl ?_; refine xgy rfl rfl rfl ?_
    refine xlsS rfl ?_
    refine xgy rfl rfl rfl ?_; refine xgt rfl rfl ?_; refine xpkf rfl rfl ?_; exact hc1 _ _ _ _ H
  case o1 =>
    refine xgn rfl rfl rfl ?_; refine xgn rfl rfl rfl ?_; refine xgn rfl rfl rfl ?_; refine xpkt rfl rfl ?_; exact hc1 _ _ _ _ H
  intro u20 u21 u22 w H; refine wpList_nil ?_; refine tn ?_; refine hK3 _ _ ?_; clear hK3 K3
  refine if_ rfl (fun h => ?_) (fun h => ?_)
  · refine sq ?_; intro K4 hK4; refine wp_region_lit ?_
    refine xc [1] H ((c_awake μ hT)) rfl rfl rfl rfl rfl ?_; rintro _ _ w ⟨rfl, rfl⟩ H; replace H := H.ap rfl
    refine xas rfl ?_; refine wpList_nil ?_; refine tn ?_; refine hK4 _ _ ?_; clear hK4 K4; refine wp_ret ?_; refine tr ?_; clear hK2 K2
    replace H := H.keeps [0] rfl; refine hQ _ _ _ ?_; refine r1 rfl rfl H ?_
    exact ⟨rfl, rfl⟩
  · skip
    refine wp_skip ?_; refine tn ?_; refine hK2 _ _ ?_; clear hK2 K2; refine sq ?_; intro K4 hK4; refine wp_region_lit ?_; refine xas rfl ?_; refine wpList_nil ?_
    refine tn ?_; refine hK4 _ _ ?_; clear hK4 K4; refine sq ?_; intro K5 hK5; refine wp_region_lit ?_; refine xmv rfl ?_
    refine xldab 0 H rfl rfl rfl rfl ?_
    refine xc [] H ((c_do0 r)) rfl rfl rfl rfl rfl ?_; rintro _ _ w ⟨rfl, rfl⟩ H; replace H := H.ap rfl
    refine xmv rfl ?_; refine xex rfl rfl ?_; refine xex rfl rfl ?_; refine xas rfl ?_; refine xas rfl ?_; refine wpList_nil ?_
    refine tn ?_; refine hK5 _ _ ?_; clear hK5 K5; refine sq ?_; intro K6 hK6; refine wp_region_lit ?_
    refine xc [] H (c_Boot0) rfl rfl rfl rfl rfl ?_; rintro _ _ w ⟨rfl, rfl⟩ H; replace H := H.ap rfl
    refine xmv rfl ?_; refine xex rfl rfl ?_; refine xex rfl rfl ?_; refine xas rfl ?_; refine xas rfl ?_; refine wpList_nil ?_
    refine tn ?_; refine hK6 _ _ ?_; clear hK6 K6; refine sq ?_; intro K7 hK7; refine wp_region_lit ?_
    refine xc [] H ((c_dnew 9)) rfl rfl rfl rfl rfl ?_; rintro _ _ w ⟨db, rfl, rfl⟩ H; replace H := H.ap rfl
    refine xas rfl ?_; refine wpList_nil ?_; refine tn ?_; refine hK7 _ _ ?_; clear hK7 K7; refine sq ?_; intro K8 hK8; refine wp_region_lit ?_; refine xmv rfl ?_
    replace H : St g w [dskC db nbD, blk b2 (recV r) recT, imm μ] := H
    refine xc [2, 0] H ((hb0 μ hT db)) rfl rfl rfl rfl rfl ?_; rintro _ _ w ⟨v, lb, rfl, rfl⟩ H; replace H := H.ap rfl
    replace H : St g w [vltC μ v db (some lb) ⟨0, []⟩, logC lb db W0, dskC db nbD, blk b2 (recV r) recT] := H
    refine xmv rfl ?_; refine xex rfl rfl ?_; refine xex rfl rfl ?_; refine xas rfl ?_; refine xas rfl ?_; refine wpList_nil ?_
    refine tn ?_; refine hK8 _ _ ?_; clear hK8 K8; refine sq ?_; intro K9 hK9; refine wp_region_lit ?_; refine xmv rfl ?_
    refine xc [2] H ((hcr db)) rfl rfl rfl rfl rfl ?_; rintro _ _ w ⟨rfl, rfl⟩ H; replace H := H.ap rfl
    obtain ⟨ν, ps, ao, cap, hμ, hL, H⟩ := (H.front' [1] rfl rfl).unvlt
    refine wpList_nil ?_; refine tn ?_; refine hK9 _ _ ?_; clear hK9 K9; refine sq ?_; intro K10 hK10; refine wp_region_lit ?_; refine xmv rfl ?_
    refine xc [0, 1] H ((hb1 ν (hT.up hμ.sees) db)) rfl rfl rfl rfl rfl ?_; rintro _ _ w ⟨rfl, rfl⟩ H; replace H := H.ap rfl
    obtain ⟨ξ, hξ, H⟩ := H.unimm
    replace H := St.tovlt (hμ.trans hξ) (hL.sees hξ.sees) (H.front' [0, 1] rfl rfl)
    refine xmv rfl ?_; refine xex rfl rfl ?_; refine xex rfl rfl ?_; refine xas rfl ?_; refine xas rfl ?_; refine wpList_nil ?_
    refine tn ?_; refine hK10 _ _ ?_; clear hK10 K10; refine sq ?_; intro K11 hK11; refine sq ?_; intro K12 hK12; refine wp_region_lit ?_; refine xmv rfl ?_
    refine xne rfl rfl ?_; refine xmv rfl ?_; refine xgy rfl rfl rfl ?_; refine xmv rfl ?_; refine xgy rfl rfl rfl ?_; refine xne rfl rfl ?_; refine xpkf rfl rfl ?_
    refine xmv rfl ?_; refine xgy rfl rfl rfl ?_; refine xmv rfl ?_; refine xgy rfl rfl rfl ?_
    refine xpmz rfl rfl ?_
    refine xpkf rfl rfl ?_; refine xmv rfl ?_; refine xgy rfl rfl rfl ?_; refine xmv rfl ?_; refine xgy rfl rfl rfl ?_; refine xne rfl rfl ?_; refine xpkf rfl rfl ?_
    refine xmv rfl ?_; refine xgy rfl rfl rfl ?_; refine xmv rfl ?_; refine xgy rfl rfl rfl ?_
    refine xpmz rfl rfl ?_
    refine xpkf rfl rfl ?_; refine xmv rfl ?_; refine xgy rfl rfl rfl ?_; refine xmv rfl ?_; refine xgy rfl rfl rfl ?_; refine xne rfl rfl ?_; refine xpkf rfl rfl ?_
    refine wpList_nil ?_; refine tn ?_; refine hK12 _ _ ?_; clear hK12 K12; refine iff_ rfl ?_; refine wp_skip ?_; refine tn ?_; refine hK11 _ _ ?_; clear hK11 K11
    refine sq ?_; intro K13 hK13; refine wp_region_lit ?_; refine xmv rfl ?_
    refine xc [] H (c_vcommit0) rfl rfl rfl rfl rfl ?_; rintro _ _ w ⟨rfl, rfl⟩ H; replace H := H.ap rfl
    refine xeq rfl rfl ?_; refine xmv rfl ?_; refine xgy rfl rfl rfl ?_; refine xmv rfl ?_; refine xgy rfl rfl rfl ?_
    refine xc [] H (c_vcompact0) rfl rfl rfl rfl rfl ?_; rintro _ _ w ⟨rfl, rfl⟩ H; replace H := H.ap rfl
    refine xgy rfl rfl rfl ?_; refine xeq rfl rfl ?_; refine xpkt rfl rfl ?_; refine xmv rfl ?_; refine xgy rfl rfl rfl ?_; refine xmv rfl ?_
    refine xgy rfl rfl rfl ?_
    refine xc [] H (c_vsure0) rfl rfl rfl rfl rfl ?_; rintro _ _ w ⟨rfl, rfl⟩ H; replace H := H.ap rfl
    refine xgy rfl rfl rfl ?_; refine xeq rfl rfl ?_; refine xpkt rfl rfl ?_; refine xmv rfl ?_; refine xgy rfl rfl rfl ?_; refine xmv rfl ?_
    refine xgy rfl rfl rfl ?_
    refine xc [] H (c_vnext0) rfl rfl rfl rfl rfl ?_; rintro _ _ w ⟨rfl, rfl⟩ H; replace H := H.ap rfl
    refine xgy rfl rfl rfl ?_; refine xeq rfl rfl ?_; refine xpkt rfl rfl ?_; refine xmv rfl ?_; refine xgy rfl rfl rfl ?_; refine xmv rfl ?_
    refine xgy rfl rfl rfl ?_
    refine xc [] H (c_vwaits0) rfl rfl rfl rfl rfl ?_; rintro _ _ w ⟨rfl, rfl⟩ H; replace H := H.ap rfl
    refine xgy rfl rfl rfl ?_; refine xeq rfl rfl ?_; refine xpkt rfl rfl ?_; refine xmv rfl ?_; refine xgy rfl rfl rfl ?_; refine xmv rfl ?_
    refine xgy rfl rfl rfl ?_; refine xmv rfl ?_; refine xgy rfl rfl rfl ?_
    refine xc [] H ((c_vaccount0 t)) rfl rfl rfl rfl rfl ?_; rintro _ _ w ⟨rfl, rfl⟩ H; replace H := H.ap rfl
    refine xgy rfl rfl rfl ?_; refine xbu rfl ?_; refine xgy rfl rfl rfl ?_
    refine xc [] H ((c_same15e [] none none none none 0 0 0 0)) rfl rfl rfl rfl rfl ?_; rintro _ _ w ⟨rfl, rfl⟩ H; replace H := H.ap rfl
    refine xpkt rfl rfl ?_; refine xmv rfl ?_; refine xgy rfl rfl rfl ?_; refine xmv rfl ?_; refine xgy rfl rfl rfl ?_; refine xmv rfl ?_; refine xgy rfl rfl rfl ?_
    refine xc [0] H ((c_vaccount μ v db (some lb) ⟨0, []⟩ t)) rfl rfl rfl rfl rfl ?_; rintro _ _ w ⟨lo, lc, co, cc, rfl, rfl⟩ H; replace H := H.ap rfl
    rw [find_none]
    refine xgy rfl rfl rfl ?_; refine xmv rfl ?_; refine xgy rfl rfl rfl ?_; refine xbu rfl ?_; refine xgy rfl rfl rfl ?_
    refine xc [] H ((c_same15e t lo co none none lc cc 0 0)) rfl rfl rfl rfl rfl ?_; rintro _ _ w ⟨rfl, rfl⟩ H; replace H := H.ap rfl
    refine xpkt rfl rfl ?_; refine xmv rfl ?_; refine xgy rfl rfl rfl ?_; refine xmv rfl ?_; refine xgy rfl rfl rfl ?_
    refine xc [] H (c_vledger0) rfl rfl rfl rfl rfl ?_; rintro _ _ w ⟨rfl, rfl⟩ H; replace H := H.ap rfl
    refine xgy rfl rfl rfl ?_; refine xbu rfl ?_; refine xgy rfl rfl rfl ?_
    refine xc [] H (c_same16e) rfl rfl rfl rfl rfl ?_; rintro _ _ w ⟨rfl, rfl⟩ H; replace H := H.ap rfl
    refine xpkt rfl rfl ?_; refine xmv rfl ?_; refine xgy rfl rfl rfl ?_
    obtain ⟨ζ, ps2, ao2, cap2, hμ2, hL2, H⟩ := (H.front' [2] rfl rfl).unvlt
    refine xc [0] H ((c_awake ζ (hT.up hμ2.sees))) rfl rfl rfl rfl rfl ?_; rintro _ _ w ⟨rfl, rfl⟩ H; replace H := H.ap rfl
    obtain ⟨χ, hχ, H⟩ := H.unimm
    replace H := St.toimmC (hμ2.trans hχ) H
    refine xpkt rfl rfl ?_; refine xas rfl ?_; refine wpList_nil ?_; refine tn ?_; refine hK13 _ _ ?_; clear hK13 K13; refine wp_ret ?_
    replace H := H.keeps [0] rfl; refine hQ _ _ _ ?_; refine r1 rfl rfl H ?_
    exact ⟨rfl, rfl⟩
end Go.Proofs.YtegllbmkkfnajaaGreatDoor
end
section
namespace Go.Proofs.YtegllbmkkfnajaaGreatDoor
open Go Go.RowKit Go.ChangeShapes Go.WideShapes Go.ChangeAt
theorem sameAt_old {W W' : World} (hold : ∀ b, b < W.heap.size → W'.heap[b]? = W.heap[b]?) {p : MemPlace} (hp : p.block < W.heap.size) : W.sameAt W' p := by
  cases p with
  | cell b off => simp only [World.sameAt, World.cell?]; rw [hold b hp]
  | map b => exact hold b hp
theorem trodAll_carry {H : Type} {enc : TypeId × Value → H} {P : Program} {w w' : World} {base : Nat} {spare : Nat → Bool} {held : Bool} : ∀ {ts : List TypeId} {vs : List Value} {ds : List (DataW H)} {ps : List MemPlace},
    DataW.TrodAll enc P w base spare held ts vs ds ps → (∀ p ∈ ps, w.sameAt w' p) → DataW.TrodAll enc P w' base spare held ts vs ds ps
  | [], [], [], _, h, _ => h
  | _ :: _, _ :: _, _ :: _, _, ⟨p, q, ⟨n, h1⟩, h2, e⟩, hs =>
    ⟨p, q, ⟨n, DataW.trod_carry n _ _ _ h1 fun x hx => hs x (by rw [e]; exact List.mem_append_left _ hx)⟩, trodAll_carry h2 (fun x hx => hs x (by rw [e]; exact List.mem_append_right _ hx)), e⟩
theorem kept_old {W W' : World} {may : MemPlace → Prop} (hold : ∀ b, b < W.heap.size → W'.heap[b]? = W.heap[b]?) (hos : W'.os = W.os) (hout : W'.output = W.output) : W.keptBut W' may :=
  World.keptBut_mono (fun _ f => f.elim) (show W.keptBut W' (fun _ => False) from ⟨hos, hout, fun i hi => by
    rw [hold i hi]
    cases h : W.heap[i]? with
    | none => rfl
    | some o => cases o <;> first | rfl | exact ⟨rfl, rfl, rfl, fun _ _ => rfl⟩ | exact .inr ⟨rfl, rfl⟩⟩)
theorem law_post {H : Type} {enc : TypeId × Value → H} {P : Program} {f : Func} {s : ChangeSpec} {W W' : World} {args : Array Value} {ds gs : List (DataW H)} {before : List MemPlace} {t4 : TypeId}
    (hl : laidOutB P = true) (hm : mapsRowed P = true) (hz : ((List.range P.types.size).all fun t => match P.underlying t with | some (.slice e) => decide (0 < P.cellsOf e) | _ => true) = true)
    (hT : ∀ t ∈ f.params.toList, t < P.types.size) (hv : s.vars = []) (hvv : (s.fn H ds).vars = []) (hr : (s.fn H ds).results = [.lit (.bool true)]) (ha : (s.fn H ds).args = ds) (hrt : f.resultTypes = #[t4]) (h4 : P.underlying t4 = some .bool)
    (hW : DataW.Whole enc P f.params.toList s.vars false W args.toList ds gs before)
    (hold : ∀ b, b < W.heap.size → W'.heap[b]? = W.heap[b]?) (hos : W'.os = W.os) (hout : W'.output = W.output) :
    s.post enc P f false true false false W args (.bool true) W' := by
  have hlt := hW.lt
  have hW' := hW
  obtain ⟨p, q, hA, hV, rfl, hfz, hnd⟩ := hW
  rw [hv] at hV
  obtain ⟨rfl, rfl⟩ := trodVars_none hV
  have hold2 : ∀ x ∈ p, (fun b => decide (b < W.heap.size)) x.block = true := fun x hx => by simpa using hlt x (by simp [hx])
  have h1 : DataW.TrodAll enc P W 0 (fun b => decide (b < W.heap.size)) true f.params.toList args.toList ds p :=
    hA.respare (kids_rows hl hm) (fun t e h h' => slices_full_of P hz t e h h') hT hold2
  have h2 := trodAll_carry h1 (fun x hx => sameAt_old hold (hlt x (by simp [hx])))
  refine ⟨ds, [], p ++ [], [], p, [], hW', ?_, ?_, ?_, kept_old hold hos hout, fun h => by cases h⟩
  · rw [List.append_nil, hr, hrt]
    exact trodAll_cons_mk (shut_bool h4 _) trodAll_mk0
  · rw [List.append_nil, ha]; exact h2
  · rw [List.append_nil, hv, hvv]; rfl
section
variable {H : Type} {enc : TypeId × Value → H} {P : Program} {w : World} {base : Nat} {sp : Nat → Bool} {held : Bool}
theorem field_at {fs : Array Field} {f : Field} {n i : Nat} {cs : List Value} {xs : List (DataW H × List MemPlace)} (hl : xs.length = fs.size)
    (hf : ∀ (i : Nat) (f : Field), fs[i]? = some f → DataW.trod enc P w base sp held n f.type ((cs.drop f.offset).take (P.cellsOf f.type)) = xs[i]?) (hi : fs[i]? = some f) :
    ∃ y, DataW.trod enc P w base sp held n f.type ((cs.drop f.offset).take (P.cellsOf f.type)) = some y := by
  have hlt : i < fs.size := (Array.getElem?_eq_some_iff.1 hi).1
  exact ⟨xs[i]'(by omega), (hf i f hi).trans (List.getElem?_eq_getElem _)⟩
theorem field_of {fs : Array Field} {f : Field} {n i t o c : Nat} {cs : List Value} {xs : List (DataW H × List MemPlace)} (hl : xs.length = fs.size)
    (hf : ∀ (i : Nat) (f : Field), fs[i]? = some f → DataW.trod enc P w base sp held n f.type ((cs.drop f.offset).take (P.cellsOf f.type)) = xs[i]?) (hi : fs[i]? = some f) (ht : f.type = t) (ho : f.offset = o) (hc : P.cellsOf t = c) :
    ∃ y, DataW.trod enc P w base sp held n t ((cs.drop o).take c) = some y := by
  subst ht; subst ho; subst hc; exact field_at hl hf hi
theorem u64_cell {T : TypeId} {n : Nat} {cs : List Value} {y : DataW H × List MemPlace} (hT : P.underlying T = some (.int .u64)) (h : DataW.trod enc P w base sp held n T cs = some y) : ∃ k : Nat, cs = [.int .u64 k] ∧ k < 18446744073709551616 := by
  obtain ⟨m, rfl, _, hw⟩ := DataW.trod_int hT h
  have := bounds_u64 hw
  exact ⟨m.toNat, by rw [Int.toNat_of_nonneg this.1], by omega⟩
theorem i64_cell {T : TypeId} {n : Nat} {cs : List Value} {y : DataW H × List MemPlace} (hT : P.underlying T = some (.int .i64)) (h : DataW.trod enc P w base sp held n T cs = some y) : ∃ k : Int, cs = [.int .i64 k] ∧ -9223372036854775808 ≤ k ∧ k ≤ 9223372036854775807 := by
  obtain ⟨m, rfl, _, hw⟩ := DataW.trod_int hT h
  have := bounds_i64 hw
  exact ⟨m, rfl, this⟩
theorem str_cell {T : TypeId} {n : Nat} {cs : List Value} {y : DataW H × List MemPlace} (hT : P.underlying T = some .string) (h : DataW.trod enc P w base sp held n T cs = some y) : ∃ s : List UInt8, cs = [.string (str s)] ∧ s.length ≤ maxLen := by
  obtain ⟨s, rfl, _, hs⟩ := DataW.trod_string hT h
  exact ⟨s.data.toList, rfl, by simpa using hs⟩
theorem one_cell {cs : List Value} {o : Nat} {v : Value} (h : (cs.drop o).take 1 = [v]) : cs[o]? = some v := by
  have := congrArg (fun l : List Value => l[0]?) h
  simpa [List.getElem?_take, List.getElem?_drop] using this
theorem six {cs : List Value} {a b c d e f : Value} (hl : cs.length = 6) (h0 : cs[0]? = some a) (h1 : cs[1]? = some b) (h2 : cs[2]? = some c) (h3 : cs[3]? = some d) (h4 : cs[4]? = some e) (h5 : cs[5]? = some f) : cs = [a, b, c, d, e, f] := by
  match cs, hl with
  | [_, _, _, _, _, _], _ => simp at h0 h1 h2 h3 h4 h5; simp [h0, h1, h2, h3, h4, h5]
end
def tabM (W : World) (b : Nat) : Mem := fun x => if x = b then W.heap[b]? else none
theorem tabM_start {W : World} {b : Nat} (hb : b < W.heap.size) : St ⟨W, fun x => x = b⟩ W [imm (tabM W b)] := by
  refine St.start ⟨fun x => x = b, fun _ => False, ⟨fun x => ?_, fun x o h => ?_⟩, fun _ => id, fun _ _ h => h, fun x => by simp⟩ (fun x hx => by rw [hx]; exact hb)
  · unfold tabM
    by_cases h : x = b
    · rw [if_pos h, Array.getElem?_eq_getElem hb]; simp [h]
    · rw [if_neg h]; simp [h]
  · unfold tabM at h
    by_cases hx : x = b
    · rw [if_pos hx] at h; rw [hx]; exact h
    · rw [if_neg hx] at h; cases h
theorem tabM_cells {W : World} {b : Nat} {vs : List Value} (hb : b < W.heap.size) (h : ∀ j v, vs[j]? = some v → W.cell? ⟨b, j, none⟩ = some v) : Cells (imm (tabM W b)) b 0 vs := by
  intro j v hj w F hF
  have h1 := hF.2 b (W.heap[b]'hb) (by unfold tabM; rw [if_pos rfl]; exact Array.getElem?_eq_getElem hb)
  have h2 := h j v hj
  rw [Nat.zero_add]
  simp only [World.cell?, h1] at h2 ⊢
  rw [Array.getElem?_eq_getElem hb] at h2
  exact h2
theorem tabM_old {W w' : World} {b : Nat} {L : List Asn} {ν : Mem} (hb : b < W.heap.size) (hν : tabM W b ≤ ν) (H : St ⟨W, fun x => x = b⟩ w' (imm ν :: L)) :
    (∀ x, x < W.heap.size → w'.heap[x]? = W.heap[x]?) ∧ w'.os = W.os ∧ w'.output = W.output := by
  obtain ⟨F, hF⟩ := H.nth (k := 0) rfl
  obtain ⟨F', _, _, _, he⟩ := H
  refine ⟨fun x hx => ?_, he.os, he.output⟩
  by_cases h : x = b
  · subst h
    have h1 := hν x (W.heap[x]'hb) (by unfold tabM; rw [if_pos rfl]; exact Array.getElem?_eq_getElem hb)
    rw [hF.2 x _ h1]; exact (Array.getElem?_eq_getElem hb).symm
  · exact he.old x hx h
end Go.Proofs.YtegllbmkkfnajaaGreatDoor
end
section
namespace Go.Proofs.YtegllbmkkfnajaaGreatDoor
open Go Go.RowKit Go.ChangeShapes Go.WideShapes
set_option maxRecDepth 100000
theorem own_knob : ownKnob Tryz.prog.godebug = none := by kernel_rfl
theorem tab_named : Tryz.prog.globalNamed "math/bits.deBruijn64tab" = some 2 := by kernel_rfl
theorem tab_type : (Tryz.prog.globals[2]?).map (·.type) = some 235 := by kernel_rfl
theorem tab_cells : Tryz.prog.cellsOf 235 = 64 := by kernel_rfl
theorem tab_cells1 : Tryz.prog.cellsOf 5 = 1 := by kernel_rfl
def tabInts : List Int := dbTab.map fun b => (b.toNat : Int)
theorem tab_row {H : Type} : (Rows.laid_math_bits_deBruijn64tab : DataW H) = Lib.tabData .u8 tabInts := by kernel_rfl
theorem tab_is {W : World} (h : laidMetH Tryz.prog [("math/bits.deBruijn64tab", Rows.laid_math_bits_deBruijn64tab)] W) : Lib.TabIs Tryz.prog W "math/bits.deBruijn64tab" .u8 tabInts :=
  Lib.tabIs_of_head (rest := []) tab_named tab_type Tryz.underlying235 Tryz.underlying5 tab_cells1 tab_cells (by rw [← tab_row]; exact h)
theorem tab_at {W : World} (h : laidMetH Tryz.prog [("math/bits.deBruijn64tab", Rows.laid_math_bits_deBruijn64tab)] W) : ∀ j v, (bv dbTab)[j]? = some v → W.cell? ⟨2, j, none⟩ = some v := by
  intro j v hj
  have hl : j < dbTab.length := by
    have := (List.getElem?_eq_some_iff.1 hj).1
    simpa [bv] using this
  have h1 := (tab_is h).cell tab_named j (by simpa [tabInts] using hl)
  rw [h1, ← hj]
  simp [bv, tabInts, hl]
theorem tab_in {W : World} (h : laidMetH Tryz.prog [("math/bits.deBruijn64tab", Rows.laid_math_bits_deBruijn64tab)] W) : 2 < W.heap.size := by
  have h1 := tab_at h 0 (.int .u8 0) (by rfl)
  simp only [World.cell?] at h1
  rcases Nat.lt_or_ge 2 W.heap.size with h2 | h2
  · exact h2
  · rw [Array.getElem?_eq_none (by omega)] at h1; cases h1
theorem tab_held {W : World} (h : laidMetH Tryz.prog [("math/bits.deBruijn64tab", Rows.laid_math_bits_deBruijn64tab)] W) : Tab (imm (tabM W 2)) := tabM_cells (tab_in h) (tab_at h)
theorem prog_laid : laidOutB Tryz.prog = true := by kernel_rfl
theorem prog_maps : mapsRowed Tryz.prog = true := by kernel_rfl
theorem prog_slices : ((List.range Tryz.prog.types.size).all fun t => match Tryz.prog.underlying t with | some (.slice e) => decide (0 < Tryz.prog.cellsOf e) | _ => true) = true := by kernel_rfl
theorem cells_u64 : Tryz.prog.cellsOf 22 = 1 := by kernel_rfl
theorem cells_int : Tryz.prog.cellsOf 3 = 1 := by kernel_rfl
theorem cells_str : Tryz.prog.cellsOf 9 = 1 := by kernel_rfl
theorem cells_rec : Tryz.prog.cellsOf 24 = 6 := by kernel_rfl
theorem open_recs {H : Type} {enc : TypeId × Value → H} {W : World} {base fuel : Nat} {sp : Nat → Bool} {held : Bool} {cs : List Value} {x : DataW H × List MemPlace} (hf : DataW.trod enc Tryz.prog W base sp held fuel 24 cs = some x) :
    ∃ q : Rec, q.ok ∧ q.tenant.length ≤ maxLen ∧ cs = recV q := by
  obtain ⟨xs, n, _, _, hl, hlen, hfd⟩ := DataW.trod_struct Tryz.underlying24 hf
  obtain ⟨y0, h0⟩ := field_of hlen hfd (i := 0) (t := 22) (o := 0) rfl rfl rfl cells_u64
  obtain ⟨y1, h1⟩ := field_of hlen hfd (i := 1) (t := 3) (o := 1) rfl rfl rfl cells_int
  obtain ⟨y2, h2⟩ := field_of hlen hfd (i := 2) (t := 9) (o := 2) rfl rfl rfl cells_str
  obtain ⟨y3, h3⟩ := field_of hlen hfd (i := 3) (t := 22) (o := 3) rfl rfl rfl cells_u64
  obtain ⟨y4, h4⟩ := field_of hlen hfd (i := 4) (t := 22) (o := 4) rfl rfl rfl cells_u64
  obtain ⟨y5, h5⟩ := field_of hlen hfd (i := 5) (t := 22) (o := 5) rfl rfl rfl cells_u64
  obtain ⟨k0, e0, b0⟩ := u64_cell Tryz.underlying22 h0
  obtain ⟨k1, e1, b1⟩ := i64_cell Tryz.underlying3 h1
  obtain ⟨k2, e2, b2⟩ := str_cell Tryz.underlying9 h2
  obtain ⟨k3, e3, b3⟩ := u64_cell Tryz.underlying22 h3
  obtain ⟨k4, e4, b4⟩ := u64_cell Tryz.underlying22 h4
  obtain ⟨k5, e5, b5⟩ := u64_cell Tryz.underlying22 h5
  refine ⟨⟨k0, k1, k2, k3, k4, k5⟩, ⟨b0, b3, b4, b5, b1⟩, b2, ?_⟩
  exact six (hl.trans cells_rec) (one_cell e0) (one_cell e1) (one_cell e2) (one_cell e3) (one_cell e4) (one_cell e5)
theorem open_rec {H : Type} {enc : TypeId × Value → H} {W : World} {r : Reach} {b0 base : Nat} {sp : Nat → Bool} {held : Bool} {v : Value} {d : DataW H} {ps : List MemPlace} (hv : Value.okWide Tryz.prog W r b0 24 v) (h : DataW.Trod enc Tryz.prog W base sp held 24 v d ps) :
    ∃ q : Rec, q.ok ∧ v = .agg (recV q).toArray := by
  obtain ⟨cs, rfl, hsz⟩ := okWide_struct Tryz.underlying24 hv
  obtain ⟨fuel, hf⟩ := h
  obtain ⟨q, hq, _, e⟩ := open_recs hf
  refine ⟨q, hq, ?_⟩
  rw [← e]
  simp [Value.cells]
theorem contract (H : Type) (enc : TypeId × Value → H) (W : World) (base : Nat) (args : Array Value) (ds gs : List (DataW H)) (before : List MemPlace)
    (hval : ∀ (j : Nat) t v, Tryz.f3.params[j]? = some t → args[j]? = some v → Value.okWide Tryz.prog W .any base t v)
    (hW : DataW.Whole enc Tryz.prog Tryz.f3.params.toList Rows.vaultNobodySpec.vars false W args.toList ds gs before) (hL : laidMetH Tryz.prog Rows.vaultNobodyRow.laid W) :
    Calls Tryz.prog 3 args W fun e W' => ∃ v, e = .returned v ∧ Rows.vaultNobodySpec.post enc Tryz.prog Tryz.f3 false true false false W args v W' := by
  have hW' := hW
  obtain ⟨p, q, hA0, hV, rfl, hfz, hnd⟩ := hW
  have hA : DataW.TrodAll enc Tryz.prog W 0 (fun _ => true) true Tryz.f3.params.toList args.toList ds p := hA0
  rw [Tryz.params3] at hA hval
  obtain ⟨v0, vs0, d0, ds0, p0, q0, hargs, rfl, rfl, h0, r0⟩ := trodAll_cons hA
  obtain ⟨v1, vs1, d1, ds1, p1, q1, hargs1, rfl, rfl, h1, r1⟩ := trodAll_cons r0
  obtain ⟨rfl, rfl, rfl⟩ := trodAll_nil r1
  subst hargs1
  obtain rfl : args = #[v0, v1] := by cases args; simp_all
  obtain ⟨r, hr, rfl⟩ := open_rec (hval 0 _ v0 rfl rfl) h0
  obtain ⟨s, rfl, _, _, hs⟩ := Go.ChangeMaps.open_string Tryz.underlying9 (hval 1 _ v1 rfl rfl) h1
  have hin := tab_in hL
  have hc := (c_nobody _ (tab_held hL) r s.data.toList).2 _ W (tabM_start hin)
  refine hc.mono ?_
  rintro e W' ⟨L', ⟨v, he, rfl, rfl⟩, hS⟩
  refine ⟨_, he, ?_⟩
  obtain ⟨ν, hν, hS⟩ := hS.unimm
  obtain ⟨hold, hos, hout⟩ := tabM_old hin hν hS
  exact law_post prog_laid prog_maps prog_slices (by rw [Tryz.params3]; decide) rfl rfl rfl rfl rfl Tryz.underlying4 hW' hold hos hout
end Go.Proofs.YtegllbmkkfnajaaGreatDoor
end
section
namespace Go.Proofs.YtegllbmkkfnajaaGreatDoor
open Go Go.RowKit Go.ChangeShapes Go.WideShapes
set_option maxRecDepth 100000
theorem door_met (os : Os) (args : Array Value) : laidMetH Tryz.prog Rows.vaultNobodyRow.laid ((World.doorLaid Tryz.prog 400 os).forCall (fun _ _ => 0) ⟨#[], args, []⟩).memory :=
  laidMetH_of_parts3 (fuel := 8) (laidMet_of_run' 8 (by kernel_rfl) (by kernel_rfl)) (by kernel_rfl) (by kernel_rfl)
theorem lifted (os : Os) (started : os.Started) (H : Type) (enc : TypeId × Value → H) :
    ReturnsInHanded {} Tryz.checked os 3 .any (fun w args => (Rows.vaultNobodySpec.pre enc Tryz.prog Tryz.f3 [] false w args ∧ laidMetH Tryz.prog Rows.vaultNobodyRow.laid w) ∧ sizedMet enc Tryz.prog Tryz.f3 (OpenSpec.ofChange Rows.vaultNobodySpec) false w args)
      (Rows.vaultNobodySpec.post enc Tryz.prog Tryz.f3 false true false false) :=
  returnsInHanded_of_change_and (C := Tryz.checked) (X := fun w _ => laidMetH Tryz.prog Rows.vaultNobodyRow.laid w) (fun _ _ _ hh h => h.of_heap hh) own_knob started (by kernel_rfl) Tryz.func3
    (ChangeSpec.witness_shaped (enc := enc) (C := Tryz.checked) (os := os) (X := fun w _ => laidMetH Tryz.prog Rows.vaultNobodyRow.laid w) false (World.doorLaid Tryz.prog 400 os) #[.agg #[.int .u64 0, .int .i64 0, .string (str []), .int .u64 0, .int .u64 0, .int .u64 0], .string (str [])] 8 rfl (World.shaped_of_RefB (by kernel_rfl) (by kernel_rfl)) (by kernel_rfl) (by kernel_rfl) (by kernel_rfl) (door_met os _))
    fun W base args ds gs before hval hW _ _ hL _ => contract H enc W base args ds gs before hval hW hL
theorem row_holds : Rows.VaultNobodySaid :=
  OpenClaim.holds_of_wide 3 Tryz.f3 rfl rfl rfl rfl rfl rfl rfl ⟨rfl, rfl, rfl, rfl, rfl⟩ rfl rfl rfl rfl rfl (by kernel_rfl) Tryz.func3 (by kernel_rfl)
    (of_decide_eq_true (by kernel_rfl)) (by unfold Func.isWrapper; (rw [if_neg (by decide +kernel)]; exact ⟨rfl, rfl⟩))
    (fun os started H enc _ => lifted os started H enc)
theorem card_holds : Rows.VaultNobodyCardSaid :=
  Claim7.holds_tied_plain_at .later [] [.data] true _ true
    row_holds (fun _ h => by cases h) (by kernel_rfl) (fun _ h => by cases h) vaultNobody_row_tie rfl ⟨rfl, rfl⟩ (by kernel_rfl) rfl
    (fun f fn hf hfn => by
      obtain rfl : f = 3 := Option.some.inj ((show Tryz.prog.funcNamed "taximeter/taximeterlaw19.VaultNobody" = some 3 by kernel_rfl).symm.trans hf) |>.symm
      obtain rfl : fn = Tryz.f3 := (Option.some.inj (Tryz.func3.symm.trans hfn)).symm
      exact ⟨by kernel_rfl, fun j t ht => by
        rw [Tryz.params3] at ht
        have hm : t ∈ [24, 9] := by simpa using Array.mem_of_getElem? ht
        have hall : ([24, 9].all fun u => !Tryz.prog.wantsStandIn u) = true := by kernel_rfl
        exact (show Tryz.prog.wantsStandIn t = false by simpa using List.all_eq_true.1 hall t hm)⟩)
    (by kernel_rfl)
end Go.Proofs.YtegllbmkkfnajaaGreatDoor
end
