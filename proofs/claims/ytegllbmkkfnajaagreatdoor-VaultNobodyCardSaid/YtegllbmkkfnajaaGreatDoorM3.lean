/-
  Own texts of this claim: walks of the functions, and what is reckoned of them.
-/
import Derived.Test.YtegllbmkkfnajaaGreatDoorM2
import Derived.RangeFuncRecord
import Derived.TacticsIn
import Derived.Lib.Bytealg
section
namespace Go.Proofs.YtegllbmkkfnajaaGreatDoor
open Go Go.Proofs
attribute [local irreducible] Go.wpList Go.Code.wp St Fn mk
set_option maxRecDepth 20000
def resB (L0 : List Asn) (r : Except Int (List UInt8)) (v : Value) (L : List Asn) : Prop :=
  match r with
  | .ok bs => ∃ ao cap, v = .tuple #[.slice ao bs.length cap, .int .i64 0] ∧ L = own ao cap 5 1 bs.length (bv bs) :: L0
  | .error e => v = .tuple #[.slice none 0 0, .int .i64 e] ∧ L = L0
def boxIn (body : List UInt8) : List UInt8 := leB 2 body.length ++ body
def boxB (body : List UInt8) : Except Int (List UInt8) := if body = [] then .error 2 else if 4096 < body.length then .error 3 else .ok (sealB (boxIn body))
theorem c_bput (A : Asn) (ao : Option Addr) (cap : Nat) (bs : List UInt8) (hr : Bys A ao bs) (hl : bs.length ≤ 1099511627776) :
    Fn Tryz.prog 82 [.slice none 0 0, .slice ao bs.length cap] [A] (Ret (resB [A] (boxB bs))) := by
  unfold boxB
  refine Fn.intro Tryz.call82 Tryz.func82 rfl Tryz.ntmps82 rfl ?_; intro g w Q hQ H
  refine sq ?_; intro K1 hK1; refine wp_region_lit ?_; refine xas rfl ?_; refine xas rfl ?_; refine wpList_nil ?_; refine tn ?_; refine hK1 _ _ ?_; clear hK1 K1
  refine sq ?_; intro K2 hK2; refine sq ?_; intro K3 hK3; refine wp_region_lit ?_; refine xmv rfl ?_; refine xli rfl ?_; refine xeq rfl rfl ?_
  refine wpList_nil ?_; refine tn ?_; refine hK3 _ _ ?_; clear hK3 K3
  refine if_ rfl (fun h0 => ?_) (fun h0 => ?_)
  · have h0 : bs = [] := by simpa using h0
    refine sq ?_; intro K4 hK4; refine wp_region_lit ?_; refine xas rfl ?_; refine xas rfl ?_; refine wpList_nil ?_; refine tn ?_; refine hK4 _ _ ?_; clear hK4 K4
    refine wp_ret ?_; refine tr ?_; clear hK2 K2
    refine hQ _ _ _ ?_; refine r2 rfl rfl rfl H ?_
    rw [if_pos h0]; exact ⟨rfl, rfl⟩
  · have h0 : bs ≠ [] := by simpa using h0
    refine wp_skip ?_; refine tn ?_; refine hK2 _ _ ?_; clear hK2 K2; refine sq ?_; intro K4 hK4; refine sq ?_; intro K5 hK5; refine wp_region_lit ?_
    refine xmv rfl ?_; refine xli rfl ?_; refine xgt rfl rfl ?_; refine wpList_nil ?_; refine tn ?_; refine hK5 _ _ ?_; clear hK5 K5
    refine if_ rfl (fun h1 => ?_) (fun h1 => ?_)
    · have h1 : 4096 < bs.length := by simp at h1; omega
      refine sq ?_; intro K6 hK6; refine wp_region_lit ?_; refine xas rfl ?_; refine xas rfl ?_; refine wpList_nil ?_; refine tn ?_; refine hK6 _ _ ?_; clear hK6 K6
      refine wp_ret ?_; refine tr ?_; clear hK4 K4
      refine hQ _ _ _ ?_; refine r2 rfl rfl rfl H ?_
      rw [if_neg h0, if_pos h1]; exact ⟨rfl, rfl⟩
    · have h1 : ¬ 4096 < bs.length := by simp at h1; omega
      refine wp_skip ?_; refine tn ?_; refine hK4 _ _ ?_; clear hK4 K4; refine sq ?_; intro K6 hK6; refine wp_region_lit ?_; refine xmv rfl ?_; refine xli rfl ?_
      refine xcvi rfl (wu64 (by omega)) ?_
      replace H := H.ownNil 5 1
      refine xc [0] H ((c_put _ none 0 [] 2 bs.length rfl (by simp) (by simp) (by omega))) rfl rfl rfl rfl rfl ?_; rintro _ _ w ⟨ao1, cap1, rfl, rfl⟩ H; replace H := H.ap rfl
      simp only [List.nil_append, List.length_nil, Nat.zero_add] at H
      refine xmv rfl ?_
      refine xap 0 H rfl rfl rfl (src_at (news := bv bs) 2 H rfl hr (by simp)) (bv_one _) (by omega) (by simp only [maxLen]; omega) ?_; intro ao18 cap18 w H hn18
      rw [← bv_append, show leB 2 bs.length ++ bs = boxIn bs from rfl] at H
      refine xas rfl ?_; refine wpList_nil ?_; refine tn ?_; refine hK6 _ _ ?_; clear hK6 K6; refine sq ?_; intro K7 hK7; refine wp_region_lit ?_; refine xmv rfl ?_
      have hlen : (boxIn bs).length = 2 + bs.length := by unfold boxIn; rw [List.length_append, leB_len]
      replace H := H.ownNil 5 1
      refine xap 0 H rfl rfl rfl (src_at (m := 0) (news := []) 0 H rfl rfl rfl) (by simp) (by omega) (by simp only [maxLen]; omega) ?_; intro ao20 cap20 w H hn20
      have hr2 := (H.front 1 rfl).ownRd
      refine xmv rfl ?_
      refine xc [1] H (((c_seal _ _ cap18 (boxIn bs) hr2 (by omega)).args (by rw [hlen]))) rfl rfl rfl rfl rfl ?_; rintro _ _ w ⟨ao3, cap3, rfl, rfl⟩ H; replace H := H.ap rfl
      have hr3 := H.ownRd
      replace H := H.front 2 rfl
      refine xap 0 H rfl rfl rfl (src_at (news := bv (sealB (boxIn bs))) 1 H rfl hr3 (by unfold sealB; simp [leB_len])) (bv_one _) (by omega) (by simp only [maxLen]; omega) ?_; intro ao23 cap23 w H hn23
      simp only [List.nil_append, Nat.zero_add] at H
      have hs : (sealB (boxIn bs)).length = (boxIn bs).length + 4 := by unfold sealB; rw [List.length_append, leB_len]
      refine xas rfl ?_; refine xas rfl ?_; refine wpList_nil ?_; refine tn ?_; refine hK7 _ _ ?_; clear hK7 K7; refine wp_ret ?_
      replace H := H.keeps [0, 3] rfl
      refine hQ _ _ _ ?_; refine r2 rfl rfl rfl H ?_
      rw [if_neg h0, if_neg h1]
      exact ⟨ao23, cap23, by rw [hs]; simp only [Nat.zero_add], by rw [hs]⟩
theorem c_size (x : Nat) (h0 : 0 < x) (h1 : x ≤ 4096) : Fn Tryz.prog 191 [.int .i64 x] [] (Ret fun v L => v = .int .i64 ((x + 6 : Nat) : Int) ∧ L = []) := by
  refine Fn.intro Tryz.call191 Tryz.func191 rfl Tryz.ntmps191 rfl ?_; intro g w Q hQ H
  refine sq ?_; intro K1 hK1; refine wp_region_lit ?_; refine xas rfl ?_; refine wpList_nil ?_; refine tn ?_; refine hK1 _ _ ?_; clear hK1 K1
  refine sq ?_; intro K2 hK2; refine sq ?_; intro K3 hK3; refine wp_region_lit ?_; refine xmv rfl ?_; refine xlt rfl rfl ?_; refine xmv rfl ?_
  refine jor (b := ?b1) 3 5 [6, 7] 8 rfl rfl H (fun hhc1 hc1 => ?a1) (fun hhc1 hc1 => ?o1) ?_
  case a1 =>
    refine xgy rfl rfl rfl ?_; refine xmv rfl ?_; refine xgy rfl rfl rfl ?_; refine xgt rfl rfl ?_; refine xpkf rfl rfl ?_; exact hc1 _ _ _ H
  case o1 =>
    refine xgn rfl rfl rfl ?_; refine xgn rfl rfl rfl ?_; refine xpkt rfl rfl ?_; exact hc1 _ _ _ H
  intro u6 u7 w H; refine wpList_nil ?_; refine tn ?_; refine hK3 _ _ ?_; clear hK3 K3
  refine if_ rfl (fun h => ?_) (fun h => ?_)
  · exact absurd h (by simp; omega)
  · refine wp_skip ?_; refine tn ?_; refine hK2 _ _ ?_; clear hK2 K2; refine sq ?_; intro K4 hK4; refine wp_region_lit ?_; refine xmv rfl ?_
    refine xadi rfl rfl (wi64 (by omega)) ?_
    refine xadi rfl rfl (wi64 (by omega)) ?_
    refine xas rfl ?_; refine wpList_nil ?_; refine tn ?_; refine hK4 _ _ ?_; clear hK4 K4; refine wp_ret ?_
    refine hQ _ _ _ ?_; refine r1 rfl rfl H ?_
    exact ⟨by congr 1 <;> omega, rfl⟩
def boxNext (bs : List UInt8) (at_ : Nat) : Except Int (List UInt8 × Nat) :=
  let rest := bs.drop at_
  if bs.length < at_ then .error 6
  else if rest.length < 2 then .error 1
  else if le (rest.take 2) = 0 then .error 2
  else if 4096 < le (rest.take 2) then .error 3
  else if rest.length < le (rest.take 2) + 6 then .error 1
  else match openB (rest.take (le (rest.take 2) + 6)) with
    | none => .error 4
    | some inner => .ok (inner.drop 2, at_ + (le (rest.take 2) + 6))
def nextR (L0 : List Asn) (r : Except Int (List UInt8 × Nat)) (v : Value) (L : List Asn) : Prop :=
  match r with
  | .ok (bs, p) => ∃ ao cap, v = .tuple #[.slice ao bs.length cap, .int .i64 p, .int .i64 0] ∧ L = own ao cap 5 1 bs.length (bv bs) :: L0
  | .error e => v = .tuple #[.slice none 0 0, .int .i64 0, .int .i64 e] ∧ L = L0
theorem openB_len {bs r : List UInt8} (h : openB bs = some r) : r.length + 4 = bs.length := by
  unfold openB at h
  split at h
  · cases h
  · split at h
    · cases h; simp; omega
    · cases h
theorem c_next (A : Asn) (ao : Option Addr) (cap : Nat) (bs : List UInt8) (at_ : Nat) (hr : Bys A ao bs) (hl : bs.length ≤ 1099511627776) (hcap : bs.length ≤ cap) (hat : at_ ≤ 1099511627776) :
    Fn Tryz.prog 165 [.slice ao bs.length cap, .int .i64 at_] [A] (Ret (nextR [A] (boxNext bs at_))) := by
  unfold boxNext
  simp only
  obtain ⟨rs, hrs⟩ : ∃ rs, bs.drop at_ = rs := ⟨_, rfl⟩
  have hrl : rs.length = bs.length - at_ := by rw [← hrs]; simp
  rw [hrs]
  refine Fn.intro Tryz.call165 Tryz.func165 rfl Tryz.ntmps165 rfl ?_; intro g w Q hQ H
  refine sq ?_; intro K1 hK1; refine wp_region_lit ?_; refine xas rfl ?_; refine xas rfl ?_; refine xas rfl ?_; refine wpList_nil ?_
  refine tn ?_; refine hK1 _ _ ?_; clear hK1 K1; refine sq ?_; intro K2 hK2; refine sq ?_; intro K3 hK3; refine wp_region_lit ?_; refine xmv rfl ?_
  refine xlt rfl rfl ?_; refine xmv rfl ?_; refine jor (b := ?b1) 5 14 [15, 16, 17, 18] 19 rfl rfl H (fun hhc1 hc1 => ?a1) (fun hhc1 hc1 => ?o1) ?_
  case a1 =>
    refine xgy rfl rfl rfl ?_; refine xmv rfl ?_; refine xgy rfl rfl rfl ?_; refine xmv rfl ?_; refine xgy rfl rfl rfl ?_; refine xli rfl ?_
    refine xgy rfl rfl rfl ?_; refine xgt rfl rfl ?_; refine xpkf rfl rfl ?_; exact hc1 _ _ _ _ _ H
  case o1 =>
    refine xgn rfl rfl rfl ?_; refine xgn rfl rfl rfl ?_; refine xgn rfl rfl rfl ?_; refine xgn rfl rfl rfl ?_; refine xpkt rfl rfl ?_; exact hc1 _ _ _ _ _ H
  intro u15 u16 u17 u18 w H; refine wpList_nil ?_; refine tn ?_; refine hK3 _ _ ?_; clear hK3 K3
  refine if_ rfl (fun h0 => ?_) (fun h0 => ?_)
  · have h0 : bs.length < at_ := by simp at h0; omega
    refine sq ?_; intro K4 hK4; refine wp_region_lit ?_; refine xas rfl ?_; refine xas rfl ?_; refine xas rfl ?_; refine wpList_nil ?_
    refine tn ?_; refine hK4 _ _ ?_; clear hK4 K4; refine wp_ret ?_; refine tr ?_; clear hK2 K2
    refine hQ _ _ _ ?_; refine r3 rfl rfl rfl rfl H ?_
    rw [if_pos h0]; exact ⟨rfl, rfl⟩
  · have h0 : ¬ bs.length < at_ := by simp at h0; omega
    have hr1 := bys_drop hr hcap at_ (by omega)
    rw [hrs] at hr1
    refine wp_skip ?_; refine tn ?_; refine hK2 _ _ ?_; clear hK2 K2; refine sq ?_; intro K4 hK4; refine wp_region_lit ?_; refine xmv rfl ?_; refine xmv rfl ?_
    refine xsl1 (l := at_) rfl rfl rfl (by omega) ?_
    rw [← hrl]
    have hl1 : rs.length ≤ 1099511627776 := by omega
    have hc1 : rs.length ≤ cap - at_ := by omega
    generalize subA ao cap at_ 1 = ao1 at hr1 ⊢
    generalize cap - at_ = cap1 at hc1 ⊢
    refine xas rfl ?_; refine wpList_nil ?_; refine tn ?_; refine hK4 _ _ ?_; clear hK4 K4; refine sq ?_; intro K5 hK5; refine sq ?_; intro K6 hK6
    refine wp_region_lit ?_; refine xmv rfl ?_; refine xli rfl ?_; refine xlt rfl rfl ?_; refine wpList_nil ?_; refine tn ?_; refine hK6 _ _ ?_; clear hK6 K6
    refine if_ rfl (fun h1 => ?_) (fun h1 => ?_)
    · refine sq ?_; intro K7 hK7; refine wp_region_lit ?_; refine xas rfl ?_; refine xas rfl ?_; refine xas rfl ?_; refine wpList_nil ?_
      refine tn ?_; refine hK7 _ _ ?_; clear hK7 K7; refine wp_ret ?_; refine tr ?_; clear hK5 K5
      refine hQ _ _ _ ?_; refine r3 rfl rfl rfl rfl H ?_
      rw [if_neg h0, if_pos (by simp at h1; omega)]; exact ⟨rfl, rfl⟩
    · have h1 : ¬ rs.length < 2 := by simp at h1; omega
      obtain ⟨c0, c1, e⟩ := len2 (l := rs.take 2) (by simp; omega)
      have hr2 := bys_take hr1 2
      rw [e] at hr2
      have hb0 := c0.toNat_lt
      have hb1 := c1.toNat_lt
      have hle : le [c0, c1] < 65536 := by simp only [le]; omega
      obtain ⟨n, hn⟩ : ∃ n, le [c0, c1] = n := ⟨_, rfl⟩
      rw [hn] at hle
      refine wp_skip ?_; refine tn ?_; refine hK5 _ _ ?_; clear hK5 K5; refine sq ?_; intro K7 hK7; refine wp_region_lit ?_; refine xmv rfl ?_
      refine xsl0 (h := 2) rfl rfl rfl (by omega) ?_
      refine xc [0] H ((c_newcur A _ _ [c0, c1] hr2 (by simp))) rfl rfl rfl rfl rfl ?_; rintro _ _ w ⟨p, rfl, rfl⟩ H; replace H := H.ap rfl
      refine xc [0] H ((c_number p [c0, c1] 0 0 2 (by simp) (by simp) (by simp))) rfl rfl rfl rfl rfl ?_; rintro _ _ w ⟨rfl, rfl⟩ H; replace H := H.ap rfl
      rw [show (ctake [c0, c1] 0 0 2).1 = [c0, c1] from rfl, hn]
      replace H := H.keeps [1] rfl
      refine xcvi rfl (wi64 (by omega)) ?_
      refine xas rfl ?_; refine wpList_nil ?_; refine tn ?_; refine hK7 _ _ ?_; clear hK7 K7; refine sq ?_; intro K8 hK8; refine sq ?_; intro K9 hK9
      refine wp_region_lit ?_; refine xmv rfl ?_; refine xeq rfl rfl ?_; refine wpList_nil ?_; refine tn ?_; refine hK9 _ _ ?_; clear hK9 K9
      refine if_ rfl (fun h2 => ?_) (fun h2 => ?_)
      · refine sq ?_; intro K10 hK10; refine wp_region_lit ?_; refine xas rfl ?_; refine xas rfl ?_; refine xas rfl ?_; refine wpList_nil ?_
        refine tn ?_; refine hK10 _ _ ?_; clear hK10 K10; refine wp_ret ?_; refine tr ?_; clear hK8 K8
        refine hQ _ _ _ ?_; refine r3 rfl rfl rfl rfl H ?_
        rw [if_neg h0, if_neg h1, e, hn, if_pos (by simp at h2; omega)]; exact ⟨rfl, rfl⟩
      · have h2 : ¬ n = 0 := by simp at h2; omega
        refine wp_skip ?_; refine tn ?_; refine hK8 _ _ ?_; clear hK8 K8; refine sq ?_; intro K10 hK10; refine sq ?_; intro K11 hK11; refine wp_region_lit ?_
        refine xmv rfl ?_; refine xgt rfl rfl ?_; refine wpList_nil ?_; refine tn ?_; refine hK11 _ _ ?_; clear hK11 K11
        refine if_ rfl (fun h3 => ?_) (fun h3 => ?_)
        · refine sq ?_; intro K12 hK12; refine wp_region_lit ?_; refine xas rfl ?_; refine xas rfl ?_; refine xas rfl ?_; refine wpList_nil ?_
          refine tn ?_; refine hK12 _ _ ?_; clear hK12 K12; refine wp_ret ?_; refine tr ?_; clear hK10 K10
          refine hQ _ _ _ ?_; refine r3 rfl rfl rfl rfl H ?_
          rw [if_neg h0, if_neg h1, e, hn, if_neg h2, if_pos (by simp at h3; omega)]; exact ⟨rfl, rfl⟩
        · have h3 : ¬ 4096 < n := by simp at h3; omega
          refine wp_skip ?_; refine tn ?_; refine hK10 _ _ ?_; clear hK10 K10; refine sq ?_; intro K12 hK12; refine wp_region_lit ?_; refine xmv rfl ?_
          refine xc [] H ((c_size n (by omega) (by omega))) rfl rfl rfl rfl rfl ?_; rintro _ _ w ⟨rfl, rfl⟩ H; replace H := H.ap rfl
          refine xas rfl ?_; refine wpList_nil ?_; refine tn ?_; refine hK12 _ _ ?_; clear hK12 K12; refine sq ?_; intro K13 hK13; refine sq ?_; intro K14 hK14
          refine wp_region_lit ?_; refine xmv rfl ?_; refine xli rfl ?_; refine xmv rfl ?_; refine xlt rfl rfl ?_; refine wpList_nil ?_
          refine tn ?_; refine hK14 _ _ ?_; clear hK14 K14
          refine if_ rfl (fun h4 => ?_) (fun h4 => ?_)
          · refine sq ?_; intro K15 hK15; refine wp_region_lit ?_; refine xas rfl ?_; refine xas rfl ?_; refine xas rfl ?_; refine wpList_nil ?_
            refine tn ?_; refine hK15 _ _ ?_; clear hK15 K15; refine wp_ret ?_; refine tr ?_; clear hK13 K13
            refine hQ _ _ _ ?_; refine r3 rfl rfl rfl rfl H ?_
            rw [if_neg h0, if_neg h1, e, hn, if_neg h2, if_neg h3, if_pos (by simp at h4; omega)]; exact ⟨rfl, rfl⟩
          · have h4 : ¬ rs.length < n + 6 := by simp at h4; omega
            have hr3 := bys_take hr1 (n + 6)
            have hl3 : (rs.take (n + 6)).length = n + 6 := by simp; omega
            have hwant : (if bs.length < at_ then (.error 6 : Except Int (List UInt8 × Nat)) else if rs.length < 2 then .error 1 else if le (rs.take 2) = 0 then .error 2 else if 4096 < le (rs.take 2) then .error 3
                else if rs.length < le (rs.take 2) + 6 then .error 1 else match openB (rs.take (le (rs.take 2) + 6)) with | none => .error 4 | some inner => .ok (inner.drop 2, at_ + (le (rs.take 2) + 6))) =
                match openB (rs.take (n + 6)) with | none => .error 4 | some inner => .ok (inner.drop 2, at_ + (n + 6)) := by
              rw [if_neg h0, if_neg h1, e, hn, if_neg h2, if_neg h3, if_neg h4]
            refine wp_skip ?_; refine tn ?_; refine hK13 _ _ ?_; clear hK13 K13; refine sq ?_; intro K15 hK15; refine wp_region_lit ?_; refine xmv rfl ?_; refine xmv rfl ?_
            refine xsl0 (h := n + 6) rfl rfl rfl (by omega) ?_
            rcases ho : openB (rs.take (n + 6)) with _ | inner
            · refine xc [0] H (((by have := c_open A ao1 cap1 (rs.take (n + 6)) hr3 (by omega) (by omega); rw [ho] at this; exact this.args (by rw [hl3]) : Fn Tryz.prog 83 [.slice ao1 (n + 6) cap1] [A] (Ret fun v L => v = .tuple #[.slice none 0 0, .bool false] ∧ L = [A])))) rfl rfl rfl rfl rfl ?_; rintro _ _ w ⟨rfl, rfl⟩ H; replace H := H.ap rfl
              refine xmv rfl ?_; refine xex rfl rfl ?_; refine xex rfl rfl ?_; refine xas rfl ?_; refine xas rfl ?_; refine wpList_nil ?_
              refine tn ?_; refine hK15 _ _ ?_; clear hK15 K15; refine sq ?_; intro K16 hK16; refine sq ?_; intro K17 hK17; refine wp_region_lit ?_; refine xmv rfl ?_
              refine xnt rfl ?_; refine wpList_nil ?_; refine tn ?_; refine hK17 _ _ ?_; clear hK17 K17; refine ift rfl ?_; refine sq ?_; intro K18 hK18
              refine wp_region_lit ?_; refine xas rfl ?_; refine xas rfl ?_; refine xas rfl ?_; refine wpList_nil ?_; refine tn ?_; refine hK18 _ _ ?_; clear hK18 K18
              refine wp_ret ?_; refine tr ?_; clear hK16 K16
              refine hQ _ _ _ ?_; refine r3 rfl rfl rfl rfl H ?_
              rw [hwant, ho]; exact ⟨rfl, rfl⟩
            · have hil := openB_len ho
              refine xc [0] H (((by have := c_open A ao1 cap1 (rs.take (n + 6)) hr3 (by omega) (by omega); rw [ho] at this; exact this.args (by rw [hl3]) : Fn Tryz.prog 83 [.slice ao1 (n + 6) cap1] [A] (Ret fun v L => ∃ ao cap, v = .tuple #[.slice ao inner.length cap, .bool true] ∧ L = [own ao cap 5 1 inner.length (bv inner), A])))) rfl rfl rfl rfl rfl ?_; rintro _ _ w ⟨ao2, cap2, rfl, rfl⟩ H; replace H := H.ap rfl
              have hr4 := bys_drop H.ownRd H.ownLen.2 2 (by omega)
              refine xmv rfl ?_; refine xex rfl rfl ?_; refine xex rfl rfl ?_; refine xas rfl ?_; refine xas rfl ?_; refine wpList_nil ?_
              refine tn ?_; refine hK15 _ _ ?_; clear hK15 K15; refine sq ?_; intro K16 hK16; refine sq ?_; intro K17 hK17; refine wp_region_lit ?_; refine xmv rfl ?_
              refine xnt rfl ?_; refine wpList_nil ?_; refine tn ?_; refine hK17 _ _ ?_; clear hK17 K17; refine iff_ rfl ?_; refine wp_skip ?_
              refine tn ?_; refine hK16 _ _ ?_; clear hK16 K16; refine sq ?_; intro K18 hK18; refine wp_region_lit ?_; refine xmv rfl ?_
              refine xsl1 (l := 2) rfl rfl rfl (by omega) ?_
              replace H := H.ownNil 5 1
              refine xap 0 H rfl rfl rfl (src_at (news := bv (inner.drop 2)) 1 H rfl hr4 (by simp)) (bv_one _) (by omega) (by simp only [maxLen]; omega) ?_; intro ao52 cap52 w H hn52
              simp only [List.nil_append, Nat.zero_add] at H
              have hdl : (inner.drop 2).length = inner.length - 2 := by simp
              refine xmv rfl ?_; refine xmv rfl ?_
              refine xadi rfl rfl (wi64 (by omega)) ?_
              refine xas rfl ?_; refine xas rfl ?_; refine xas rfl ?_; refine wpList_nil ?_; refine tn ?_; refine hK18 _ _ ?_; clear hK18 K18; refine wp_ret ?_
              replace H := H.keeps [0, 1] rfl
              refine hQ _ _ _ ?_; refine r3 rfl rfl rfl rfl H ?_
              rw [hwant, ho]
              exact ⟨_, _, by rw [hdl]; simp only [Nat.zero_add]; congr 3, by rw [hdl]⟩
end Go.Proofs.YtegllbmkkfnajaaGreatDoor
end
section
namespace Go.Proofs.YtegllbmkkfnajaaGreatDoor
open Go Go.Proofs
attribute [local irreducible] Go.wpList Go.Code.wp St Fn mk
set_option maxRecDepth 20000
structure Rec where
  seq : Nat
  kind : Int
  tenant : List UInt8
  lease : Nat
  n : Nat
  bits : Nat
deriving DecidableEq
def recV (r : Rec) : List Value := [.int .u64 r.seq, .int .i64 r.kind, .string (str r.tenant), .int .u64 r.lease, .int .u64 r.n, .int .u64 r.bits]
abbrev recT : Nat := 24
structure Rec.ok (r : Rec) : Prop where
  seq : r.seq < 18446744073709551616
  lease : r.lease < 18446744073709551616
  n : r.n < 18446744073709551616
  bits : r.bits < 18446744073709551616
  kind : -9223372036854775808 ≤ r.kind ∧ r.kind ≤ 9223372036854775807
def hasL (k : Int) : Bool := (k == 3) || (k == 4)
def hasN (k : Int) : Bool := (k == 1) || ((k == 3) || (k == 4))
def hasB (k : Int) : Bool := (k == 2)
theorem c_has (k : Int) : Fn Tryz.prog 105 [.int .i64 k] [] (Ret fun v L => v = .tuple #[.bool (hasL k), .bool (hasN k), .bool (hasB k)] ∧ L = []) := by
  unfold hasL hasN hasB
  refine Fn.intro Tryz.call105 Tryz.func105 rfl Tryz.ntmps105 rfl ?_; intro g w Q hQ H
  refine sq ?_; intro K1 hK1; refine wp_region_lit ?_; refine xas rfl ?_; refine xas rfl ?_; refine xas rfl ?_; refine wpList_nil ?_
  refine tn ?_; refine hK1 _ _ ?_; clear hK1 K1; refine sq ?_; intro K2 hK2; refine sq ?_; intro K3 hK3; refine wp_region_lit ?_; refine xmv rfl ?_
  refine wpList_nil ?_; refine tn ?_; refine hK3 _ _ ?_; clear hK3 K3; refine wp_block ?_; refine sq ?_; intro K4 hK4; refine wp_region_lit ?_
  refine xeq rfl rfl ?_; refine xas rfl ?_; refine wpList_nil ?_; refine tn ?_; refine hK4 _ _ ?_; clear hK4 K4
  refine if_ rfl (fun h1 => ?_) (fun h1 => ?_)
  · have h1 : k = 1 := by simpa using h1
    refine sq ?_; intro K5 hK5; refine wp_region_lit ?_; refine xas rfl ?_; refine xas rfl ?_; refine xas rfl ?_; refine wpList_nil ?_
    refine tn ?_; refine hK5 _ _ ?_; clear hK5 K5; refine wp_ret ?_; refine br ?_; refine tr ?_; clear hK2 K2
    refine hQ _ _ _ ?_; refine r3 rfl rfl rfl rfl H ?_
    subst h1; exact ⟨rfl, rfl⟩
  · have h1 : k ≠ 1 := by simpa using h1
    refine sq ?_; intro K5 hK5; refine wp_region_lit ?_; refine xeq rfl rfl ?_; refine xas rfl ?_; refine wpList_nil ?_
    refine tn ?_; refine hK5 _ _ ?_; clear hK5 K5
    refine if_ rfl (fun h2 => ?_) (fun h2 => ?_)
    · have h2 : k = 2 := by simpa using h2
      refine sq ?_; intro K6 hK6; refine wp_region_lit ?_; refine xas rfl ?_; refine xas rfl ?_; refine xas rfl ?_; refine wpList_nil ?_
      refine tn ?_; refine hK6 _ _ ?_; clear hK6 K6; refine wp_ret ?_; refine br ?_; refine tr ?_; clear hK2 K2
      refine hQ _ _ _ ?_; refine r3 rfl rfl rfl rfl H ?_
      subst h2; exact ⟨rfl, rfl⟩
    · have h2 : k ≠ 2 := by simpa using h2
      refine sq ?_; intro K6 hK6; refine sq ?_; intro K7 hK7; refine wp_region_lit ?_; refine xeq rfl rfl ?_; refine xas rfl ?_; refine wpList_nil ?_
      refine tn ?_; refine hK7 _ _ ?_; clear hK7 K7
      refine cutK (g := g) (α := Bool) (fun c => [(2, .bool false), (3, .bool false), (4, .bool false), (10, .bool c)]) (fun c => []) (fun c => c = ((k == 3) || (k == 4))) (fun K8 hK8 => ?_) (fun c ρ w hI H => ?_)
      · skip
        refine if_ rfl (fun h3 => ?_) (fun h3 => ?_)
        · refine wp_skip ?_
          refine tn ?_; refine hK8 _ _ ((k == 3)) ⟨rfl, rfl, rfl, rfl, True.intro⟩ ?_ H
          rw [h3]; rfl
        · refine wp_region_lit ?_; refine xeq rfl rfl ?_; refine xas rfl ?_; refine wpList_nil ?_
          refine tn ?_; refine hK8 _ _ ((k == 4)) ⟨rfl, rfl, rfl, rfl, True.intro⟩ ?_ H
          rw [h3]; rfl
      · refine hK6 _ _ ?_; clear hK6 K6
        refine if_ rfl (fun h3 => ?_) (fun h3 => ?_)
        · have h3 : ((k == 3) || (k == 4)) = true := hI ▸ h3
          refine sq ?_; intro K9 hK9; refine wp_region_lit ?_; refine xas rfl ?_; refine xas rfl ?_; refine xas rfl ?_; refine wpList_nil ?_
          refine tn ?_; refine hK9 _ _ ?_; clear hK9 K9; refine wp_ret ?_; refine br ?_; refine tr ?_; clear hK2 K2
          refine hQ _ _ _ ?_; refine r3 rfl rfl rfl rfl H ?_
          rw [h3, beq_false_of_ne h1, beq_false_of_ne h2]; exact ⟨rfl, rfl⟩
        · have h3 : ((k == 3) || (k == 4)) = false := hI ▸ h3
          refine wp_skip ?_; refine bn ?_; refine tn ?_; refine hK2 _ _ ?_; clear hK2 K2; refine sq ?_; intro K9 hK9; refine wp_region_lit ?_; refine xas rfl ?_
          refine xas rfl ?_; refine xas rfl ?_; refine wpList_nil ?_; refine tn ?_; refine hK9 _ _ ?_; clear hK9 K9; refine wp_ret ?_
          refine hQ _ _ _ ?_; refine r3 rfl rfl rfl rfl H ?_
          rw [h3, beq_false_of_ne h1, beq_false_of_ne h2]; exact ⟨rfl, rfl⟩
def rknown (k : Int) : Bool := decide (1 ≤ k) && decide (k ≤ 5)
theorem c_rknown (k : Int) : Fn Tryz.prog 106 [.int .i64 k] [] (Ret fun v L => v = .bool (rknown k) ∧ L = []) := by
  refine Fn.intro Tryz.call106 Tryz.func106 rfl Tryz.ntmps106 rfl ?_; intro g w Q hQ H
  refine sq ?_; intro K1 hK1; refine wp_region_lit ?_; refine xas rfl ?_; refine wpList_nil ?_; refine tn ?_; refine hK1 _ _ ?_; clear hK1 K1
  refine sq ?_; intro K2 hK2; refine wp_region_lit ?_; refine xmv rfl ?_; refine xle rfl rfl ?_; refine xmv rfl ?_
  refine jand (b := ?b1) 3 5 [6, 7] 8 rfl rfl H (fun hhc1 hc1 => ?a1) (fun hhc1 hc1 => ?o1) ?_
  case a1 =>
    refine xgy rfl rfl rfl ?_; refine xmv rfl ?_; refine xgy rfl rfl rfl ?_; refine xle rfl rfl ?_; refine xpkt rfl rfl ?_; exact hc1 _ _ _ H
  case o1 =>
    refine xgn rfl rfl rfl ?_; refine xgn rfl rfl rfl ?_; refine xpkf rfl rfl ?_; exact hc1 _ _ _ H
  intro u6 u7 w H; refine xas rfl ?_; refine wpList_nil ?_; refine tn ?_; refine hK2 _ _ ?_; clear hK2 K2; refine wp_ret ?_
  refine hQ _ _ _ ?_; refine r1 rfl rfl H ?_
  exact ⟨rfl, rfl⟩
def rplain (b : Nat) : Bool := fPrice b && (((fCanon b : Nat) : Int) == (b : Int))
theorem c_pcheck_t {b : Nat} (hb : b < 18446744073709551616) (h : fPrice b = true) : Fn Tryz.prog 143 [.int .u64 b] [] (Ret fun v L => v = .tuple #[.int .u64 (fCanon b : Nat), .int .i64 0] ∧ L = []) := by
  have := c_pcheck b hb; simpa only [if_pos h] using this
theorem c_pcheck_f {b : Nat} (hb : b < 18446744073709551616) (h : ¬ fPrice b = true) : Fn Tryz.prog 143 [.int .u64 b] [] (Ret fun v L => v = .tuple #[.int .u64 0, .int .i64 13] ∧ L = []) := by
  have := c_pcheck b hb; simpa only [if_neg h] using this
theorem c_rplain (b : Nat) (hb : b < 18446744073709551616) : Fn Tryz.prog 108 [.int .u64 b] [] (Ret fun v L => v = .bool (rplain b) ∧ L = []) := by
  unfold rplain
  refine Fn.intro Tryz.call108 Tryz.func108 rfl Tryz.ntmps108 rfl ?_; intro g w Q hQ H
  by_cases h : fPrice b = true
  · refine sq ?_; intro K1 hK1; refine wp_region_lit ?_; refine xas rfl ?_; refine wpList_nil ?_; refine tn ?_; refine hK1 _ _ ?_; clear hK1 K1
    refine sq ?_; intro K2 hK2; refine wp_region_lit ?_; refine xmv rfl ?_
    refine xc [] H ((c_pcheck_t hb h)) rfl rfl rfl rfl rfl ?_; rintro _ _ w ⟨rfl, rfl⟩ H; replace H := H.ap rfl
    refine xmv rfl ?_; refine xex rfl rfl ?_; refine xex rfl rfl ?_; refine xas rfl ?_; refine xas rfl ?_; refine wpList_nil ?_
    refine tn ?_; refine hK2 _ _ ?_; clear hK2 K2; refine sq ?_; intro K3 hK3; refine wp_region_lit ?_; refine xmv rfl ?_; refine xeq rfl rfl ?_; refine xmv rfl ?_
    refine jand (b := ?b1) 4 12 [13, 14, 15] 16 rfl rfl H (fun hhc1 hc1 => ?a1) (fun hhc1 hc1 => ?o1) ?_
    case a1 =>
      refine xgy rfl rfl rfl ?_; refine xmv rfl ?_; refine xgy rfl rfl rfl ?_; refine xmv rfl ?_; refine xgy rfl rfl rfl ?_; refine xeq rfl rfl ?_
      refine xpkt rfl rfl ?_; exact hc1 _ _ _ _ H
    case o1 =>
      refine xgn rfl rfl rfl ?_; refine xgn rfl rfl rfl ?_; refine xgn rfl rfl rfl ?_; refine xpkf rfl rfl ?_; exact hc1 _ _ _ _ H
    intro u13 u14 u15 w H; refine xas rfl ?_; refine wpList_nil ?_; refine tn ?_; refine hK3 _ _ ?_; clear hK3 K3; refine wp_ret ?_
    refine hQ _ _ _ ?_; refine r1 rfl rfl H ?_
    rw [h]; exact ⟨rfl, rfl⟩
  · refine sq ?_; intro K1 hK1; refine wp_region_lit ?_; refine xas rfl ?_; refine wpList_nil ?_; refine tn ?_; refine hK1 _ _ ?_; clear hK1 K1
    refine sq ?_; intro K2 hK2; refine wp_region_lit ?_; refine xmv rfl ?_
    refine xc [] H ((c_pcheck_f hb h)) rfl rfl rfl rfl rfl ?_; rintro _ _ w ⟨rfl, rfl⟩ H; replace H := H.ap rfl
    refine xmv rfl ?_; refine xex rfl rfl ?_; refine xex rfl rfl ?_; refine xas rfl ?_; refine xas rfl ?_; refine wpList_nil ?_
    refine tn ?_; refine hK2 _ _ ?_; clear hK2 K2; refine sq ?_; intro K3 hK3; refine wp_region_lit ?_; refine xmv rfl ?_; refine xeq rfl rfl ?_; refine xmv rfl ?_
    refine jand (b := ?b2) 4 12 [13, 14, 15] 16 rfl rfl H (fun hhc2 hc2 => ?a2) (fun hhc2 hc2 => ?o2) ?_
    case a2 =>
      refine xgy rfl rfl rfl ?_; refine xmv rfl ?_; refine xgy rfl rfl rfl ?_; refine xmv rfl ?_; refine xgy rfl rfl rfl ?_; refine xeq rfl rfl ?_
      refine xpkt rfl rfl ?_; exact hc2 _ _ _ _ H
    case o2 =>
      refine xgn rfl rfl rfl ?_; refine xgn rfl rfl rfl ?_; refine xgn rfl rfl rfl ?_; refine xpkf rfl rfl ?_; exact hc2 _ _ _ _ H
    intro u13 u14 u15 w H; refine xas rfl ?_; refine wpList_nil ?_; refine tn ?_; refine hK3 _ _ ?_; clear hK3 K3; refine wp_ret ?_
    refine hQ _ _ _ ?_; refine r1 rfl rfl H ?_
    rw [Bool.not_eq_true _ |>.mp h]; exact ⟨rfl, rfl⟩
def recRange (r : Rec) : Bool := (((r.seq : Int) == 0) || ((hasL r.kind && ((r.lease : Int) == 0)) || ((r.kind == 3) && ((r.n : Int) == 0))))
def recForm (r : Rec) : Bool := ((!hasL r.kind && ((r.lease : Int) != 0)) || ((!hasN r.kind && ((r.n : Int) != 0)) || (!hasB r.kind && ((r.bits : Int) != 0))))
def recCheck (r : Rec) : Int :=
  if rknown r.kind = false then 5 else if tenantOk r.tenant = false then 7 else if recRange r = true then 6 else if (hasB r.kind && !rplain r.bits) = true then 13 else if recForm r = true then 2 else 0
theorem c_rcheck (r : Rec) (hr : r.ok) : Fn Tryz.prog 77 [.agg (recV r).toArray] [] (Ret fun v L => v = .int .i64 (recCheck r) ∧ L = []) := by
  obtain ⟨seq, kind, tenant, lease, n, bits⟩ := r
  have hbits : bits < 18446744073709551616 := hr.bits
  unfold recCheck
  refine Fn.intro Tryz.call77 Tryz.func77 rfl Tryz.ntmps77 rfl ?_; intro g w Q hQ H
  refine sq ?_; intro K1 hK1; refine wp_region_lit ?_; refine xbx H rfl rfl ?_; intro b1 w H; refine xas rfl ?_; refine wpList_nil ?_
  refine tn ?_; refine hK1 _ _ ?_; clear hK1 K1; refine sq ?_; intro K2 hK2; refine wp_region_lit ?_; refine xfa rfl ?_
  refine xldb 0 H rfl rfl rfl ?_
  refine xc [] H ((c_has kind)) rfl rfl rfl rfl rfl ?_; rintro _ _ w ⟨rfl, rfl⟩ H; replace H := H.ap rfl
  refine xmv rfl ?_; refine xex rfl rfl ?_; refine xex rfl rfl ?_; refine xex rfl rfl ?_; refine xas rfl ?_; refine xas rfl ?_; refine xas rfl ?_
  refine wpList_nil ?_; refine tn ?_; refine hK2 _ _ ?_; clear hK2 K2; refine sq ?_; intro K3 hK3; refine wp_block ?_; refine sq ?_; intro K4 hK4
  refine wp_region_lit ?_; refine xfa rfl ?_
  refine xldb 0 H rfl rfl rfl ?_
  refine xc [] H ((c_rknown kind)) rfl rfl rfl rfl rfl ?_; rintro _ _ w ⟨rfl, rfl⟩ H; replace H := H.ap rfl
  refine xnt rfl ?_; refine xas rfl ?_; refine wpList_nil ?_; refine tn ?_; refine hK4 _ _ ?_; clear hK4 K4
  refine if_ rfl (fun h1 => ?_) (fun h1 => ?_)
  · have h1 : rknown kind = false := by simpa using h1
    refine sq ?_; intro K5 hK5; refine wp_region_lit ?_; refine xas rfl ?_; refine wpList_nil ?_; refine tn ?_; refine hK5 _ _ ?_; clear hK5 K5; refine wp_ret ?_
    refine br ?_; refine tr ?_; clear hK3 K3
    replace H := H.keeps [] rfl
    refine hQ _ _ _ ?_; refine r1 rfl rfl H ?_
    rw [if_pos h1]; exact ⟨rfl, rfl⟩
  · have h1 : ¬ rknown kind = false := by simpa using h1
    refine sq ?_; intro K5 hK5; refine wp_region_lit ?_; refine xfa rfl ?_
    refine xldb 0 H rfl rfl rfl ?_
    refine xc [] H ((c_tenant tenant)) rfl rfl rfl rfl rfl ?_; rintro _ _ w ⟨rfl, rfl⟩ H; replace H := H.ap rfl
    refine xnt rfl ?_; refine xas rfl ?_; refine wpList_nil ?_; refine tn ?_; refine hK5 _ _ ?_; clear hK5 K5
    refine if_ rfl (fun h2 => ?_) (fun h2 => ?_)
    · have h2 : tenantOk tenant = false := by simpa using h2
      refine sq ?_; intro K6 hK6; refine wp_region_lit ?_; refine xas rfl ?_; refine wpList_nil ?_; refine tn ?_; refine hK6 _ _ ?_; clear hK6 K6; refine wp_ret ?_
      refine br ?_; refine tr ?_; clear hK3 K3
      replace H := H.keeps [] rfl
      refine hQ _ _ _ ?_; refine r1 rfl rfl H ?_
      rw [if_neg h1, if_pos h2]; exact ⟨rfl, rfl⟩
    · have h2 : ¬ tenantOk tenant = false := by simpa using h2
      refine sq ?_; intro K6 hK6; refine sq ?_; intro K7 hK7; refine wp_region_lit ?_; refine xfa rfl ?_
      refine xldb 0 H rfl rfl rfl ?_
      refine xeq rfl rfl ?_; refine xas rfl ?_; refine wpList_nil ?_; refine tn ?_; refine hK7 _ _ ?_; clear hK7 K7
      refine cutK (g := g) (α := Bool) (fun c => [(1, .pointer (some ⟨b1, 0, none⟩)), (3, .bool (hasL kind)), (4, .bool (hasN kind)), (5, .bool (hasB kind)), (23, .bool c)]) (fun c => [blk b1 (recV ⟨seq, kind, tenant, lease, n, bits⟩) recT]) (fun c => c = recRange ⟨seq, kind, tenant, lease, n, bits⟩) (fun K8 hK8 => ?_) (fun c ρ w hI H => ?_)
      · skip
        refine if_ rfl (fun h3 => ?_) (fun h3 => ?_)
        · refine wp_skip ?_
          refine tn ?_; refine hK8 _ _ (((seq : Int) == 0)) ⟨rfl, rfl, rfl, rfl, rfl, True.intro⟩ ?_ H
          simp only [recRange, h3]; rfl
        · refine sq ?_; intro K9 hK9; refine wp_region_lit ?_; refine xmv rfl ?_; refine xmv rfl ?_
          refine jand (b := ?b1) 4 28 [29, 30, 31] 32 rfl rfl H (fun hhc1 hc1 => ?a1) (fun hhc1 hc1 => ?o1) ?_
          case a1 =>
            refine xgy rfl rfl rfl ?_; refine xfa rfl ?_; refine xgy rfl rfl rfl ?_
            refine xldb 0 H rfl rfl rfl ?_
            refine xgy rfl rfl rfl ?_; refine xeq rfl rfl ?_; refine xpkt rfl rfl ?_; exact hc1 _ _ _ _ H
          case o1 =>
            refine xgn rfl rfl rfl ?_; refine xgn rfl rfl rfl ?_; refine xgn rfl rfl rfl ?_; refine xpkf rfl rfl ?_; exact hc1 _ _ _ _ H
          intro u29 u30 u31 w H; refine xas rfl ?_; refine wpList_nil ?_; refine tn ?_; refine hK9 _ _ ?_; clear hK9 K9
          refine if_ rfl (fun h4 => ?_) (fun h4 => ?_)
          · refine wp_skip ?_
            refine tn ?_; refine hK8 _ _ ((hasL kind && ((lease : Int) == 0))) ⟨rfl, rfl, rfl, rfl, rfl, True.intro⟩ ?_ H
            simp only [recRange, h3, h4]; rfl
          · refine wp_region_lit ?_; refine xfa rfl ?_
            refine xldb 0 H rfl rfl rfl ?_
            refine xeq rfl rfl ?_; refine xmv rfl ?_; refine jand (b := ?b2) 4 36 [37, 38, 39] 40 rfl rfl H (fun hhc2 hc2 => ?a2) (fun hhc2 hc2 => ?o2) ?_
            case a2 =>
              refine xgy rfl rfl rfl ?_; refine xfa rfl ?_; refine xgy rfl rfl rfl ?_
              refine xldb 0 H rfl rfl rfl ?_
              refine xgy rfl rfl rfl ?_; refine xeq rfl rfl ?_; refine xpkt rfl rfl ?_; exact hc2 _ _ _ _ H
            case o2 =>
              refine xgn rfl rfl rfl ?_; refine xgn rfl rfl rfl ?_; refine xgn rfl rfl rfl ?_; refine xpkf rfl rfl ?_; exact hc2 _ _ _ _ H
            intro u37 u38 u39 w H; refine xas rfl ?_; refine wpList_nil ?_
            refine tn ?_; refine hK8 _ _ (((kind == 3) && ((n : Int) == 0))) ⟨rfl, rfl, rfl, rfl, rfl, True.intro⟩ ?_ H
            simp only [recRange, h3, h4]; rfl
      · refine hK6 _ _ ?_; clear hK6 K6
        refine if_ rfl (fun h3 => ?_) (fun h3 => ?_)
        · have h3 : recRange ⟨seq, kind, tenant, lease, n, bits⟩ = true := hI ▸ h3
          refine sq ?_; intro K9 hK9; refine wp_region_lit ?_; refine xas rfl ?_; refine wpList_nil ?_; refine tn ?_; refine hK9 _ _ ?_; clear hK9 K9; refine wp_ret ?_
          refine br ?_; refine tr ?_; clear hK3 K3
          replace H := H.keeps [] rfl
          refine hQ _ _ _ ?_; refine r1 rfl rfl H ?_
          rw [if_neg h1, if_neg h2, if_pos h3]; exact ⟨rfl, rfl⟩
        · have h3 : ¬ recRange ⟨seq, kind, tenant, lease, n, bits⟩ = true := by rw [← hI, h3]; decide
          refine sq ?_; intro K9 hK9; refine wp_region_lit ?_; refine xmv rfl ?_; refine xmv rfl ?_
          refine jand (b := ?b3) 5 43 [44, 45, 46, 47] 48 rfl rfl H (fun hhc3 hc3 => ?a3) (fun hhc3 hc3 => ?o3) ?_
          case a3 =>
            refine xgy rfl rfl rfl ?_; refine xfa rfl ?_; refine xgy rfl rfl rfl ?_
            refine xldb 0 H rfl rfl rfl ?_
            refine xgy rfl rfl rfl ?_
            refine xc [] H ((c_rplain bits hbits)) rfl rfl rfl rfl rfl ?_; rintro _ _ w ⟨rfl, rfl⟩ H; replace H := H.ap rfl
            refine xgy rfl rfl rfl ?_; refine xnt rfl ?_; refine xpkt rfl rfl ?_; exact hc3 _ _ _ _ _ H
          case o3 =>
            refine xgn rfl rfl rfl ?_; refine xgn rfl rfl rfl ?_; refine xgn rfl rfl rfl ?_; refine xgn rfl rfl rfl ?_; refine xpkf rfl rfl ?_; exact hc3 _ _ _ _ _ H
          intro u44 u45 u46 u47 w H; refine xas rfl ?_; refine wpList_nil ?_; refine tn ?_; refine hK9 _ _ ?_; clear hK9 K9
          refine if_ rfl (fun h4 => ?_) (fun h4 => ?_)
          · refine sq ?_; intro K10 hK10; refine wp_region_lit ?_; refine xas rfl ?_; refine wpList_nil ?_; refine tn ?_; refine hK10 _ _ ?_; clear hK10 K10
            refine wp_ret ?_; refine br ?_; refine tr ?_; clear hK3 K3
            replace H := H.keeps [] rfl
            refine hQ _ _ _ ?_; refine r1 rfl rfl H ?_
            rw [if_neg h1, if_neg h2, if_neg h3, if_pos h4]; exact ⟨rfl, rfl⟩
          · have h4 : ¬ (hasB kind && !rplain bits) = true := by rw [h4]; decide
            refine sq ?_; intro K10 hK10; refine sq ?_; intro K11 hK11; refine wp_region_lit ?_; refine xmv rfl ?_; refine xnt rfl ?_; refine xmv rfl ?_
            refine jand (b := ?b4) 4 52 [53, 54, 55] 56 rfl rfl H (fun hhc4 hc4 => ?a4) (fun hhc4 hc4 => ?o4) ?_
            case a4 =>
              refine xgy rfl rfl rfl ?_; refine xfa rfl ?_; refine xgy rfl rfl rfl ?_
              refine xldb 0 H rfl rfl rfl ?_
              refine xgy rfl rfl rfl ?_; refine xne rfl rfl ?_; refine xpkt rfl rfl ?_; exact hc4 _ _ _ _ H
            case o4 =>
              refine xgn rfl rfl rfl ?_; refine xgn rfl rfl rfl ?_; refine xgn rfl rfl rfl ?_; refine xpkf rfl rfl ?_; exact hc4 _ _ _ _ H
            intro u53 u54 u55 w H; refine xas rfl ?_; refine wpList_nil ?_; refine tn ?_; refine hK11 _ _ ?_; clear hK11 K11
            refine cutK (g := g) (α := Bool) (fun c => [(49, .bool c)]) (fun c => []) (fun c => c = recForm ⟨seq, kind, tenant, lease, n, bits⟩) (fun K12 hK12 => ?_) (fun c ρ w hI H => ?_)
            · skip
              refine if_ rfl (fun h5 => ?_) (fun h5 => ?_)
              · refine wp_skip ?_
                replace H := H.keeps [] rfl
                refine tn ?_; refine hK12 _ _ ((!hasL kind && ((lease : Int) != 0))) ⟨rfl, True.intro⟩ ?_ H
                simp only [recForm, h5]; rfl
              · refine sq ?_; intro K13 hK13; refine wp_region_lit ?_; refine xmv rfl ?_; refine xnt rfl ?_; refine xmv rfl ?_
                refine jand (b := ?b5) 4 59 [60, 61, 62] 63 rfl rfl H (fun hhc5 hc5 => ?a5) (fun hhc5 hc5 => ?o5) ?_
                case a5 =>
                  refine xgy rfl rfl rfl ?_; refine xfa rfl ?_; refine xgy rfl rfl rfl ?_
                  refine xldb 0 H rfl rfl rfl ?_
                  refine xgy rfl rfl rfl ?_; refine xne rfl rfl ?_; refine xpkt rfl rfl ?_; exact hc5 _ _ _ _ H
                case o5 =>
                  refine xgn rfl rfl rfl ?_; refine xgn rfl rfl rfl ?_; refine xgn rfl rfl rfl ?_; refine xpkf rfl rfl ?_; exact hc5 _ _ _ _ H
                intro u60 u61 u62 w H; refine xas rfl ?_; refine wpList_nil ?_; refine tn ?_; refine hK13 _ _ ?_; clear hK13 K13
                refine if_ rfl (fun h6 => ?_) (fun h6 => ?_)
                · refine wp_skip ?_
                  replace H := H.keeps [] rfl
                  refine tn ?_; refine hK12 _ _ ((!hasN kind && ((n : Int) != 0))) ⟨rfl, True.intro⟩ ?_ H
                  simp only [recForm, h5, h6]; rfl
                · refine wp_region_lit ?_; refine xmv rfl ?_; refine xnt rfl ?_; refine xmv rfl ?_
                  refine jand (b := ?b6) 4 66 [67, 68, 69] 70 rfl rfl H (fun hhc6 hc6 => ?a6) (fun hhc6 hc6 => ?o6) ?_
                  case a6 =>
                    refine xgy rfl rfl rfl ?_; refine xfa rfl ?_; refine xgy rfl rfl rfl ?_
                    refine xldb 0 H rfl rfl rfl ?_
                    refine xgy rfl rfl rfl ?_; refine xne rfl rfl ?_; refine xpkt rfl rfl ?_; exact hc6 _ _ _ _ H
                  case o6 =>
                    refine xgn rfl rfl rfl ?_; refine xgn rfl rfl rfl ?_; refine xgn rfl rfl rfl ?_; refine xpkf rfl rfl ?_; exact hc6 _ _ _ _ H
                  intro u67 u68 u69 w H; refine xas rfl ?_; refine wpList_nil ?_
                  replace H := H.keeps [] rfl
                  refine tn ?_; refine hK12 _ _ ((!hasB kind && ((bits : Int) != 0))) ⟨rfl, True.intro⟩ ?_ H
                  simp only [recForm, h5, h6]; rfl
            · refine hK10 _ _ ?_; clear hK10 K10
              refine if_ rfl (fun h5 => ?_) (fun h5 => ?_)
              · have h5 : recForm ⟨seq, kind, tenant, lease, n, bits⟩ = true := hI ▸ h5
                refine sq ?_; intro K13 hK13; refine wp_region_lit ?_; refine xas rfl ?_; refine wpList_nil ?_; refine tn ?_; refine hK13 _ _ ?_; clear hK13 K13
                refine wp_ret ?_; refine br ?_; refine tr ?_; clear hK3 K3
                refine hQ _ _ _ ?_; refine r1 rfl rfl H ?_
                rw [if_neg h1, if_neg h2, if_neg h3, if_neg h4, if_pos h5]; exact ⟨rfl, rfl⟩
              · have h5 : ¬ recForm ⟨seq, kind, tenant, lease, n, bits⟩ = true := by rw [← hI, h5]; decide
                refine wp_skip ?_; refine bn ?_; refine tn ?_; refine hK3 _ _ ?_; clear hK3 K3; refine sq ?_; intro K13 hK13; refine wp_region_lit ?_; refine xas rfl ?_
                refine wpList_nil ?_; refine tn ?_; refine hK13 _ _ ?_; clear hK13 K13; refine wp_ret ?_
                refine hQ _ _ _ ?_; refine r1 rfl rfl H ?_
                rw [if_neg h1, if_neg h2, if_neg h3, if_neg h4, if_neg h5]; exact ⟨rfl, rfl⟩
end Go.Proofs.YtegllbmkkfnajaaGreatDoor
end
section
namespace Go.Proofs.YtegllbmkkfnajaaGreatDoor
open Go Go.RowKit
section
variable {P : Program} {ops : Array Oper} {Q : Exit → Act → World → Prop} {rest : List Oper} {n d ty : Nat} {pos : String} {af : Array Edge} {ρ : Env} {ds : List Deferred} {w : World} {g : Gh} {L : List Asn}
variable {f : FuncId} {fv : Operand} {xs : List Operand} {ats : Array TypeId} {args av p q pa : List Value} {V : Value → List Asn → Prop}
theorem xcw (H : St g w L) (c : Fn P f args L (Ret V)) (hf : ev n ρ fv = some (.func (.func f) p.toArray q.toArray)) (ha : evl n ρ xs = some av) (hpa : apV p av = some pa) (hpq : apV pa q = some args)
    (h : ∀ v L' w', V v L' → St g w' L' → wpList P ops Q rest (mk n (upd ρ d v) ds) w') :
    wpList P ops Q (⟨some d, .call { callee := .value fv, args := xs.toArray, argTypes := ats }, ty, pos, af, none⟩ :: rest) (mk n ρ ds) w :=
  wpList_plain rfl fun K hK => by
    unfold Oper.wp; rw [run_call hf ha hpa hpq c.1, Oper.upon_enter]
    refine (c.2 g w H).mono fun e w' ⟨L', ⟨v, e', hv⟩, H'⟩ => ?_
    subst e'
    show K ((mk n ρ ds).put (some d) v) w'
    rw [mk_put]; exact hK _ _ (h v L' w' hv H')
end
end Go.Proofs.YtegllbmkkfnajaaGreatDoor
namespace Go.Proofs.YtegllbmkkfnajaaGreatDoor
open Go Go.RowKit
section
variable {P : Program} {n : Nat} {ρ : Env} {w : World} {g : Gh} {fn : Func} {V : Value → List Asn → Prop} {L : List Asn} {t u T U b off m : Nat} {vs : List Value} {v v' : Value} {A : Asn} {L0 R : List Asn}
theorem tmp_at {t : Nat} {v : Value} (hv : ev n ρ (.tmp t) = some v) : (mk n ρ []).tmps[t]?.getD undef = v := by
  have := mk_eval (ds := []) hv
  simpa [Act.eval, Array.getD_eq_getD_getElem?] using this
theorem rca [TAg P T m] (k : Nat) (ks : List Nat) (h : fn.results = #[.cell t T]) (hv : ev n ρ (.tmp t) = some (.pointer (some ⟨b, off, none⟩))) (H : St g w L0) (hk : nthA L0 k = some A) (hc : Cells A b off vs) (hm : Nat.beq vs.length m = true) (hks : pick ks L0 = some (L, R)) (hR : V (.agg vs.toArray) L) :
    bodyPost P fn (fun e w' => ∃ L', Ret V e L' ∧ St g w' L') .ret (mk n ρ []) w := by
  have hm := Nat.eq_of_beq_eq_true hm
  obtain ⟨F, hF⟩ := H.nth hk
  subst hm
  have e1 := tmp_at hv
  refine bodyPost_ret (v := .agg vs.toArray) ?_ rfl ⟨L, ⟨_, rfl, hR⟩, H.keeps ks hks⟩
  simp [results, h, e1, asAddr, loadVar, TAg.out (P := P) (T := T), TAg.size (P := P) (T := T), hc.run hF]
theorem rca1 [TAg P T m] (k : Nat) (ks : List Nat) (h : fn.results = #[.cell t T, .tmp u]) (hv : ev n ρ (.tmp t) = some (.pointer (some ⟨b, off, none⟩))) (hv' : ev n ρ (.tmp u) = some v') (H : St g w L0) (hk : nthA L0 k = some A) (hc : Cells A b off vs) (hm : Nat.beq vs.length m = true) (hks : pick ks L0 = some (L, R)) (hR : V (.tuple #[.agg vs.toArray, v']) L) :
    bodyPost P fn (fun e w' => ∃ L', Ret V e L' ∧ St g w' L') .ret (mk n ρ []) w := by
  have hm := Nat.eq_of_beq_eq_true hm
  obtain ⟨F, hF⟩ := H.nth hk
  subst hm
  have e1 := tmp_at hv
  have e2 := tmp_at hv'
  refine bodyPost_ret (v := .tuple #[.agg vs.toArray, v']) ?_ rfl ⟨L, ⟨_, rfl, hR⟩, H.keeps ks hks⟩
  simp [results, h, e1, e2, asAddr, loadVar, TAg.out (P := P) (T := T), TAg.size (P := P) (T := T), hc.run hF]
end
end Go.Proofs.YtegllbmkkfnajaaGreatDoor
namespace Go.Proofs.YtegllbmkkfnajaaGreatDoor
open Go Go.RowKit
theorem Fn.frame {P : Program} {f : FuncId} {args : List Value} {S S' : List Asn} {x : Value} (M : List Asn) (h : Fn P f args S (Ret fun v L => v = x ∧ L = S')) : Fn P f args (S ++ M) (Ret fun v L => v = x ∧ L = S' ++ M) :=
  ⟨h.1, fun g w H cs => by
    obtain ⟨F, hF, hb, hf, he⟩ := H
    obtain ⟨F1, F2, h1, h2, hd, hu⟩ := hF.split
    obtain ⟨e, w', fr, ⟨L', ⟨v, e1, e2, e3⟩, hS⟩, rest⟩ := h.2 ⟨w, F1⟩ w (St.start h1 (fun b x => hb b ((hu b).2 (.inl x)))) cs
    subst e1 e2 e3
    exact ⟨_, w', fr, ⟨_, ⟨_, rfl, rfl, rfl⟩, frame_core h2 hd hu hb hf he hS⟩, rest⟩⟩
end Go.Proofs.YtegllbmkkfnajaaGreatDoor
namespace Go.Proofs.YtegllbmkkfnajaaGreatDoor
open Go Go.RowKit
theorem xssS {P : Program} {ops : Array Oper} {Q : Exit → Act → World → Prop} {rest : List Oper} {n d ty : Nat} {pos : String} {af : Array Edge} {ρ : Env} {ds : List Deferred} {w : World} {x : Operand} {lo hi : Option Operand} {T : Nat} {s : List UInt8} [TStr P T] (l h : Nat) (hx : ev n ρ x = some (.string (str s)))
    (hl : match lo with | some y => ∃ k, ev n ρ y = some (.int k (l : Nat)) | none => l = 0) (hh : match hi with | some y => ∃ k, ev n ρ y = some (.int k (h : Nat)) | none => h = s.length) (h1 : l ≤ h) (h2 : h ≤ s.length)
    (hc : wpList P ops Q rest (mk n (upd ρ d (.string (str ((s.take h).drop l)))) ds) w) : wpList P ops Q (⟨some d, .slice T x lo hi none, ty, pos, af, none⟩ :: rest) (mk n ρ ds) w := by
  refine xss l h hx hl hh h1 h2 ?_
  rw [str_extract]; exact hc
end Go.Proofs.YtegllbmkkfnajaaGreatDoor
end
section
namespace Go.Proofs.YtegllbmkkfnajaaGreatDoor
open Go Go.Proofs
attribute [local irreducible] Go.wpList Go.Code.wp St Fn mk
set_option maxRecDepth 20000
def eachS {σ : Type} (step : σ → Nat → σ) (k : Int) (s : σ) : σ :=
  let s1 := if hasL k = true then step s 3 else s
  let s2 := if hasN k = true then step s1 4 else s1
  if hasB k = true then step s2 5 else s2
theorem c_each {σ : Type} (step : σ → Nat → σ) (C : σ → List Asn) (rv : σ → List Value) (p f : Nat) (cap : List Value) (k : Int)
    (hk : ∀ s, nthV (rv s) 1 = some (.int .i64 k)) (ok : Nat → σ → Prop) (ok1 : ∀ j s i, j < 2 → ok j s → ok (j + 1) (step s i)) (ok2 : ∀ j s, j < 2 → ok j s → ok (j + 1) s) (hv : ∀ j s i, ok j s → i = 3 ∨ i = 4 ∨ i = 5 → Fn Tryz.prog f (.pointer (some ⟨p, i, none⟩) :: cap) (blk p (rv s) recT :: C s) (Ret fun v L => v = .tuple #[] ∧ L = blk p (rv (step s i)) recT :: C (step s i))) (s : σ) (h0 : ok 0 s) :
    Fn Tryz.prog 118 [.pointer (some ⟨p, 0, none⟩), .func (.func f) #[] cap.toArray] (blk p (rv s) recT :: C s) (Ret fun v L => v = .tuple #[] ∧ L = blk p (rv (eachS step k s)) recT :: C (eachS step k s)) := by
  unfold eachS
  refine Fn.intro Tryz.call118 Tryz.func118 rfl Tryz.ntmps118 rfl ?_; intro g w Q hQ H
  have hk0 := hk s
  have h1 : ok 1 (if hasL k = true then step s 3 else s) := by split; exact ok1 _ _ _ (by decide) h0; exact ok2 _ _ (by decide) h0
  have h2 : ok 2 (if hasN k = true then step (if hasL k = true then step s 3 else s) 4 else (if hasL k = true then step s 3 else s)) := by split; exact ok1 _ _ _ (by decide) h1; exact ok2 _ _ (by decide) h1
  refine sq ?_; intro K1 hK1; refine wp_region_lit ?_; refine xmv rfl ?_
  refine xnc rfl ?_
  refine xfa rfl ?_
  refine xld 0 H rfl rfl (blk_cell hk0) ?_
  refine xc [] H ((c_has k)) rfl rfl rfl rfl rfl ?_; rintro _ _ w ⟨rfl, rfl⟩ H; replace H := H.ap rfl
  refine xmv rfl ?_; refine xex rfl rfl ?_; refine xex rfl rfl ?_; refine xex rfl rfl ?_; refine xas rfl ?_; refine xas rfl ?_; refine xas rfl ?_
  refine wpList_nil ?_; refine tn ?_; refine hK1 _ _ ?_; clear hK1 K1; refine sq ?_; intro K2 hK2; refine sq ?_; intro K3 hK3; refine wp_region_lit ?_
  refine xmv rfl ?_; refine wpList_nil ?_; refine tn ?_; refine hK3 _ _ ?_; clear hK3 K3
  refine cutK (g := g) (α := σ) (fun s1 => [(0, .pointer (some ⟨p, 0, none⟩)), (1, .func (.func f) #[] cap.toArray), (5, .bool (hasN k)), (6, .bool (hasB k))]) (fun s1 => blk p (rv s1) recT :: C s1) (fun s1 => s1 = (if hasL k = true then step s 3 else s)) (fun K4 hK4 => ?_) (fun s1 ρ w hI H => ?_)
  · skip
    refine if_ rfl (fun h => ?_) (fun h => ?_)
    · refine wp_region_lit ?_; refine xmv rfl ?_; refine xmv rfl ?_
      refine xnc rfl ?_
      refine xfa rfl ?_
      refine xcw H ((hv 0 s 3 h0 (.inl rfl))) rfl rfl rfl rfl ?_; rintro _ _ w ⟨rfl, rfl⟩ H
      refine wpList_nil ?_
      refine tn ?_; refine hK4 _ _ (step s 3) ⟨rfl, rfl, rfl, rfl, True.intro⟩ ?_ H
      rw [if_pos h]
    · refine wp_skip ?_
      refine tn ?_; refine hK4 _ _ (s) ⟨rfl, rfl, rfl, rfl, True.intro⟩ ?_ H
      rw [if_neg (by rw [h]; decide)]
  · refine hK2 _ _ ?_; clear hK2 K2; refine sq ?_; intro K5 hK5; refine sq ?_; intro K6 hK6; refine wp_region_lit ?_; refine xmv rfl ?_; refine wpList_nil ?_
    refine tn ?_; refine hK6 _ _ ?_; clear hK6 K6
    subst hI
    refine cutK (g := g) (α := σ) (fun s2 => [(0, .pointer (some ⟨p, 0, none⟩)), (1, .func (.func f) #[] cap.toArray), (6, .bool (hasB k))]) (fun s2 => blk p (rv s2) recT :: C s2) (fun s2 => s2 = (if hasN k = true then step (if hasL k = true then step s 3 else s) 4 else (if hasL k = true then step s 3 else s))) (fun K7 hK7 => ?_) (fun s2 ρ w hI H => ?_)
    · skip
      refine if_ rfl (fun h => ?_) (fun h => ?_)
      · refine wp_region_lit ?_; refine xmv rfl ?_; refine xmv rfl ?_
        refine xnc rfl ?_
        refine xfa rfl ?_
        refine xcw H ((hv 1 _ 4 h1 (.inr (.inl rfl)))) rfl rfl rfl rfl ?_; rintro _ _ w ⟨rfl, rfl⟩ H
        refine wpList_nil ?_
        refine tn ?_; refine hK7 _ _ (step (if hasL k = true then step s 3 else s) 4) ⟨rfl, rfl, rfl, True.intro⟩ ?_ H
        rw [if_pos h]
      · refine wp_skip ?_
        refine tn ?_; refine hK7 _ _ ((if hasL k = true then step s 3 else s)) ⟨rfl, rfl, rfl, True.intro⟩ ?_ H
        rw [if_neg (c := hasN k = true) (by rw [h]; decide)]
    · refine hK5 _ _ ?_; clear hK5 K5; refine sq ?_; intro K8 hK8; refine wp_region_lit ?_; refine xmv rfl ?_; refine wpList_nil ?_
      refine tn ?_; refine hK8 _ _ ?_; clear hK8 K8
      subst hI
      refine if_ rfl (fun h => ?_) (fun h => ?_)
      · refine wp_region_lit ?_; refine xmv rfl ?_; refine xmv rfl ?_
        refine xnc rfl ?_
        refine xfa rfl ?_
        refine xcw H ((hv 2 _ 5 h2 (.inr (.inr rfl)))) rfl rfl rfl rfl ?_; rintro _ _ w ⟨rfl, rfl⟩ H
        refine wpList_nil ?_
        refine hQ _ _ _ ?_; refine n0 rfl H ?_
        simp only [h, if_true]; exact ⟨trivial, trivial⟩
      · refine wp_skip ?_
        refine hQ _ _ _ ?_; refine n0 rfl H ?_
        simp only [h, Bool.false_eq_true, if_false]; exact ⟨trivial, trivial⟩
end Go.Proofs.YtegllbmkkfnajaaGreatDoor
end
section
namespace Go.Proofs.YtegllbmkkfnajaaGreatDoor
open Go Go.Proofs
attribute [local irreducible] Go.wpList Go.Code.wp St Fn mk
set_option maxRecDepth 20000
def bbuf (b : Nat) (bs : List UInt8) : Asn :=
  exa fun q : Option Addr × Nat => pak [fct (bs.length ≤ q.2), blk b [.slice q.1 bs.length q.2] 59, own q.1 q.2 5 1 bs.length (bv bs)]
theorem St.unbbuf {g : Gh} {w : World} {L : List Asn} {b : Nat} {bs : List UInt8} (H : St g w (bbuf b bs :: L)) :
    ∃ ao cap, bs.length ≤ cap ∧ St g w (blk b [.slice ao bs.length cap] 59 :: own ao cap 5 1 bs.length (bv bs) :: L) := by
  obtain ⟨⟨ao, cap⟩, H⟩ := H.unexa
  obtain ⟨h, H⟩ := (show St g w (fct (bs.length ≤ cap) :: blk b [.slice ao bs.length cap] 59 :: own ao cap 5 1 bs.length (bv bs) :: L) from H.unpak).unfct
  exact ⟨ao, cap, h, H⟩
theorem St.tobbuf {g : Gh} {w : World} {L : List Asn} {b cap : Nat} {ao : Option Addr} {bs : List UInt8} (H : St g w (blk b [.slice ao bs.length cap] 59 :: own ao cap 5 1 bs.length (bv bs) :: L)) : St g w (bbuf b bs :: L) := by
  have hc := (H.front 1 rfl).ownLen.2
  exact St.toexa (A := fun q : Option Addr × Nat => pak [fct (bs.length ≤ q.2), blk b [.slice q.1 bs.length q.2] 59, own q.1 q.2 5 1 bs.length (bv bs)]) (ao, cap) (St.topak (M := [fct (bs.length ≤ cap), blk b [.slice ao bs.length cap] 59, own ao cap 5 1 bs.length (bv bs)]) (H.tofct hc))
def fieldR (r : Rec) (i : Nat) : Nat := if i = 3 then r.lease else if i = 4 then r.n else r.bits
theorem c_enc1 (r : Rec) (hr : r.ok) (p b i : Nat) (bs : List UInt8) (hl : bs.length ≤ 1099511627776) (hi : i = 3 ∨ i = 4 ∨ i = 5) :
    Fn Tryz.prog 119 [.pointer (some ⟨p, i, none⟩), .pointer (some ⟨b, 0, none⟩)] [blk p (recV r) recT, bbuf b bs]
      (Ret fun v L => v = .tuple #[] ∧ L = [blk p (recV r) recT, bbuf b (bs ++ leB 8 (fieldR r i))]) := by
  refine Fn.intro Tryz.call119 Tryz.func119 rfl Tryz.ntmps119 rfl ?_; intro g w Q hQ H
  replace H := H.front 1 rfl
  obtain ⟨ao, cap, hcap, H⟩ := H.unbbuf
  have hlen : (bs ++ leB 8 (fieldR r i)).length = bs.length + 8 := by rw [List.length_append, leB_len]
  unfold fieldR at *
  rcases hi with rfl | rfl | rfl
  · refine drws (m := 6) 5 rfl rfl H ?_; clear H; intro w H
    refine dt 0 rfl (by kernel_rfl) H (zldb 0 rfl rfl rfl) ?_
    refine dt' 1 rfl (by kernel_rfl) H (ymv rfl) ?_
    refine dt' 2 rfl (by kernel_rfl) H (ync rfl) ?_
    refine dt 3 rfl (by kernel_rfl) H (zldb 2 rfl rfl rfl) ?_
    refine do1 4 rfl (by kernel_rfl) ?_; intro K1 hK1
    refine xc [1] H ((c_put _ ao cap bs 8 r.lease (H.front 1 rfl).ownRd hl (by simp) hr.lease)) rfl rfl rfl rfl rfl ?_; rintro _ _ w ⟨ao2, cap2, rfl, rfl⟩ H; replace H := H.ap rfl
    refine wpList_nil ?_; refine tn ?_; refine hK1 _ _ (fun _ => (((H.drop).perm (List.Perm.swap _ _ _)))) ?_; clear hK1 K1
    refine do1 5 rfl (by kernel_rfl) ?_; intro K2 hK2
    (refine xst 2 H rfl rfl rfl rfl rfl ?_; intro w H)
    refine wpList_nil ?_; refine tn ?_; refine hK2 _ _ (fun h => absurd rfl h) ?_; clear hK2 K2; refine dd (by kernel_rfl) ?_
    replace H := H.keeps [0, 0, 1] rfl
    rw [← hlen] at H
    replace H := (St.tobbuf H).front 1 rfl
    refine hQ _ _ _ ?_; refine n0 rfl H ?_
    exact ⟨rfl, rfl⟩
  · refine drws (m := 6) 5 rfl rfl H ?_; clear H; intro w H
    refine dt 0 rfl (by kernel_rfl) H (zldb 0 rfl rfl rfl) ?_
    refine dt' 1 rfl (by kernel_rfl) H (ymv rfl) ?_
    refine dt' 2 rfl (by kernel_rfl) H (ync rfl) ?_
    refine dt 3 rfl (by kernel_rfl) H (zldb 2 rfl rfl rfl) ?_
    refine do1 4 rfl (by kernel_rfl) ?_; intro K1 hK1
    refine xc [1] H ((c_put _ ao cap bs 8 r.n (H.front 1 rfl).ownRd hl (by simp) hr.n)) rfl rfl rfl rfl rfl ?_; rintro _ _ w ⟨ao2, cap2, rfl, rfl⟩ H; replace H := H.ap rfl
    refine wpList_nil ?_; refine tn ?_; refine hK1 _ _ (fun _ => (((H.drop).perm (List.Perm.swap _ _ _)))) ?_; clear hK1 K1
    refine do1 5 rfl (by kernel_rfl) ?_; intro K2 hK2
    (refine xst 2 H rfl rfl rfl rfl rfl ?_; intro w H)
    refine wpList_nil ?_; refine tn ?_; refine hK2 _ _ (fun h => absurd rfl h) ?_; clear hK2 K2; refine dd (by kernel_rfl) ?_
    replace H := H.keeps [0, 0, 1] rfl
    rw [← hlen] at H
    replace H := (St.tobbuf H).front 1 rfl
    refine hQ _ _ _ ?_; refine n0 rfl H ?_
    exact ⟨rfl, rfl⟩
  · refine drws (m := 6) 5 rfl rfl H ?_; clear H; intro w H
    refine dt 0 rfl (by kernel_rfl) H (zldb 0 rfl rfl rfl) ?_
    refine dt' 1 rfl (by kernel_rfl) H (ymv rfl) ?_
    refine dt' 2 rfl (by kernel_rfl) H (ync rfl) ?_
    refine dt 3 rfl (by kernel_rfl) H (zldb 2 rfl rfl rfl) ?_
    refine do1 4 rfl (by kernel_rfl) ?_; intro K1 hK1
    refine xc [1] H ((c_put _ ao cap bs 8 r.bits (H.front 1 rfl).ownRd hl (by simp) hr.bits)) rfl rfl rfl rfl rfl ?_; rintro _ _ w ⟨ao2, cap2, rfl, rfl⟩ H; replace H := H.ap rfl
    refine wpList_nil ?_; refine tn ?_; refine hK1 _ _ (fun _ => (((H.drop).perm (List.Perm.swap _ _ _)))) ?_; clear hK1 K1
    refine do1 5 rfl (by kernel_rfl) ?_; intro K2 hK2
    (refine xst 2 H rfl rfl rfl rfl rfl ?_; intro w H)
    refine wpList_nil ?_; refine tn ?_; refine hK2 _ _ (fun h => absurd rfl h) ?_; clear hK2 K2; refine dd (by kernel_rfl) ?_
    replace H := H.keeps [0, 0, 1] rfl
    rw [← hlen] at H
    replace H := (St.tobbuf H).front 1 rfl
    refine hQ _ _ _ ?_; refine n0 rfl H ?_
    exact ⟨rfl, rfl⟩
def recFields (r : Rec) (bs : List UInt8) : List UInt8 := eachS (fun b i => b ++ leB 8 (fieldR r i)) r.kind bs
def recHead (r : Rec) : List UInt8 := leB 1 r.kind.toNat ++ leB 8 r.seq ++ leB 1 r.tenant.length ++ r.tenant
def recBytes (r : Rec) : List UInt8 := recFields r (recHead r)
def recEnc (r : Rec) : Except Int (List UInt8) := if recCheck r ≠ 0 then .error (recCheck r) else .ok (recBytes r)
theorem recCheck_zero {r : Rec} (h : recCheck r = 0) : rknown r.kind = true ∧ tenantOk r.tenant = true ∧ recRange r = false ∧ recForm r = false ∧ (hasB r.kind = true → rplain r.bits = true) := by
  unfold recCheck at h
  split at h
  · cases h
  · split at h
    · cases h
    · split at h
      · cases h
      · split at h
        · cases h
        · split at h
          · cases h
          · rename_i h1 h2 h3 h4 h5
            simp at h1 h2 h3 h4 h5
            exact ⟨h1, h2, h3, h5, h4⟩
theorem tenant_len {bs : List UInt8} (h : tenantOk bs = true) : bs.length ≤ 16 := by
  unfold tenantOk named at h
  simp at h; omega
theorem if_len (c : Bool) (x : List UInt8) (n : Nat) : (if c = true then x ++ leB 8 n else x).length ≤ x.length + 8 := by
  split
  · rw [List.length_append, leB_len]; exact Nat.le_refl _
  · omega
theorem each_len (r : Rec) (bs : List UInt8) : (recFields r bs).length ≤ bs.length + 24 :=
  Nat.le_trans (if_len _ _ _) (Nat.add_le_add_right (Nat.le_trans (if_len _ _ _) (Nat.add_le_add_right (if_len _ _ _) 8)) 8)
theorem c_encode (r : Rec) (hr : r.ok) : Fn Tryz.prog 81 [.agg (recV r).toArray] [] (Ret (resB [] (recEnc r))) := by
  unfold recEnc
  have hseq := hr.seq
  refine Fn.intro Tryz.call81 Tryz.func81 rfl Tryz.ntmps81 rfl ?_; intro g w Q hQ H
  refine sq ?_; intro K1 hK1; refine wp_region_lit ?_; refine xbx H rfl rfl ?_; intro b1 w H; refine xas rfl ?_; refine xas rfl ?_; refine wpList_nil ?_
  refine tn ?_; refine hK1 _ _ ?_; clear hK1 K1; refine sq ?_; intro K2 hK2; refine sq ?_; intro K3 hK3; refine wp_region_lit ?_
  refine xldab 0 H rfl rfl rfl rfl ?_
  refine xc [] H ((c_rcheck r hr)) rfl rfl rfl rfl rfl ?_; rintro _ _ w ⟨rfl, rfl⟩ H; replace H := H.ap rfl
  refine xas rfl ?_; refine wpList_nil ?_; refine tn ?_; refine hK3 _ _ ?_; clear hK3 K3; refine sq ?_; intro K4 hK4; refine wp_region_lit ?_; refine xmv rfl ?_
  refine xne rfl rfl ?_; refine wpList_nil ?_; refine tn ?_; refine hK4 _ _ ?_; clear hK4 K4
  refine if_ rfl (fun h => ?_) (fun h => ?_)
  · refine sq ?_; intro K5 hK5; refine wp_region_lit ?_; refine xmv rfl ?_; refine xas rfl ?_; refine xas rfl ?_; refine wpList_nil ?_
    refine tn ?_; refine hK5 _ _ ?_; clear hK5 K5; refine wp_ret ?_; refine tr ?_; clear hK2 K2
    replace H := H.keeps [] rfl
    refine hQ _ _ _ ?_; refine r2 rfl rfl rfl H ?_
    rw [if_pos (by simpa using h)]; exact ⟨rfl, rfl⟩
  · have h : recCheck r = 0 := by simpa using h
    obtain ⟨hk, ht, _⟩ := recCheck_zero h
    have hk : 1 ≤ r.kind ∧ r.kind ≤ 5 := by unfold rknown at hk; simpa using hk
    have ht := tenant_len ht
    obtain ⟨k, hkk⟩ : ∃ k : Nat, r.kind = (k : Int) := ⟨r.kind.toNat, by omega⟩
    have hl1 : (leB 1 k).length = 1 := leB_len 1 k
    have hl2 : (leB 1 k ++ leB 8 r.seq).length = 9 := by rw [List.length_append, leB_len, leB_len]
    have hl3 : ((leB 1 k ++ leB 8 r.seq) ++ leB 1 r.tenant.length).length = 10 := by rw [List.length_append, hl2, leB_len]
    have hh : recHead r = ((leB 1 k ++ leB 8 r.seq) ++ leB 1 r.tenant.length) ++ r.tenant := by unfold recHead; rw [hkk]; rfl
    have hl4 : (recHead r).length = 10 + r.tenant.length := by rw [hh, List.length_append, hl3]
    refine wp_skip ?_; refine tn ?_; refine hK2 _ _ ?_; clear hK2 K2; refine sq ?_; intro K5 hK5; refine wp_region_lit ?_; refine xfa rfl ?_
    refine xldb 0 H rfl rfl rfl ?_
    refine xcvi rfl (wu64 (by omega)) ?_
    replace H := H.ownNil 5 1
    refine xc [0] H (((c_put _ none 0 [] 1 k rfl (by simp) (by simp) (by omega)).args (by rw [hkk]; rfl))) rfl rfl rfl rfl rfl ?_; rintro _ _ w ⟨ao1, cap1, rfl, rfl⟩ H; replace H := H.ap rfl
    simp only [List.nil_append, List.length_nil, Nat.zero_add] at H
    replace H := H.keeps [0, 1] rfl
    refine xal H ?_; intro b5 w H
    (refine xst 0 H rfl rfl rfl rfl rfl ?_; intro w H)
    refine wpList_nil ?_; refine tn ?_; refine hK5 _ _ ?_; clear hK5 K5; refine sq ?_; intro K6 hK6; refine wp_region_lit ?_
    refine xldb 0 H rfl rfl rfl ?_
    refine xfa rfl ?_
    refine xldb 2 H rfl rfl rfl ?_
    refine xc [1] H (((c_put _ ao1 cap1 (leB 1 k) 8 r.seq (H.front 1 rfl).ownRd (by omega) (by simp) hseq).args (by rw [hl1]; rfl))) rfl rfl rfl rfl rfl ?_; rintro _ _ w ⟨ao2, cap2, rfl, rfl⟩ H; replace H := H.ap rfl
    replace H := H.keeps [0, 1, 1] rfl
    (refine xst 1 H rfl rfl rfl rfl rfl ?_; intro w H)
    refine wpList_nil ?_; refine tn ?_; refine hK6 _ _ ?_; clear hK6 K6; refine sq ?_; intro K7 hK7; refine wp_region_lit ?_
    refine xldb 0 H rfl rfl rfl ?_
    refine xfa rfl ?_
    refine xldb 2 H rfl rfl rfl ?_
    refine xlsS rfl ?_
    refine xcvi rfl (wu64 (by omega)) ?_
    refine xc [1] H (((c_put _ ao2 cap2 (leB 1 k ++ leB 8 r.seq) 1 r.tenant.length (H.front 1 rfl).ownRd (by omega) (by simp) (by omega)).args (by rw [hl2, hl1]; rfl))) rfl rfl rfl rfl rfl ?_; rintro _ _ w ⟨ao3, cap3, rfl, rfl⟩ H; replace H := H.ap rfl
    replace H := H.keeps [0, 1, 1] rfl
    (refine xst 1 H rfl rfl rfl rfl rfl ?_; intro w H)
    refine wpList_nil ?_; refine tn ?_; refine hK7 _ _ ?_; clear hK7 K7; refine sq ?_; intro K8 hK8; refine wp_region_lit ?_
    refine xldb 0 H rfl rfl rfl ?_
    refine xfa rfl ?_
    refine xldb 2 H rfl rfl rfl ?_
    rw [show (leB 1 k ++ leB 8 r.seq).length + 1 = 10 by rw [hl2]] at H
    refine xap 1 H rfl rfl rfl src_str (by intro v hv; simp at hv; obtain ⟨c, _, rfl⟩ := hv; rfl) (by simp; omega) (by simp [maxLen]; omega) ?_; intro ao28 cap28 w H hn28
    have e : bv ((leB 1 k ++ leB 8 r.seq) ++ leB 1 r.tenant.length) ++ ((str r.tenant).data.toList.map fun b => Value.int .u8 b.toNat) = bv (recHead r) := by rw [hh, bv_append (_ ++ _ ++ _)]; rfl
    rw [e, show 10 + (str r.tenant).size = (recHead r).length from hl4.symm] at H
    (refine xst 1 H rfl rfl rfl rfl rfl ?_; intro w H)
    refine wpList_nil ?_; refine tn ?_; refine hK8 _ _ ?_; clear hK8 K8; refine sq ?_; intro K9 hK9; refine wp_region_lit ?_; refine xmf rfl rfl ?_
    rw [show 10 + (str r.tenant).size = (recHead r).length from hl4.symm] at H
    replace H := (St.tobbuf H).front 1 rfl
    refine xcw H ((c_each (σ := List UInt8) (fun b i => b ++ leB 8 (fieldR r i)) (fun bs => [bbuf b5 bs]) (fun _ => recV r) b1 119 [.pointer (some ⟨b5, 0, none⟩)] r.kind (fun _ => rfl) (fun j bs => bs.length ≤ 100 + 8 * j ∧ j ≤ 2) (fun j bs i hj hb => by simp only [List.length_append, leB_len]; omega) (fun j bs hj hb => by omega) (fun j bs i hb hi => c_enc1 r hr b1 b5 i bs (by omega) hi) (recHead r) (by omega))) rfl rfl rfl rfl ?_; rintro _ _ w ⟨rfl, rfl⟩ H
    obtain ⟨ao, cap, hcap, H⟩ := (H.front 1 rfl).unbbuf
    refine wpList_nil ?_; refine tn ?_; refine hK9 _ _ ?_; clear hK9 K9; refine sq ?_; intro K10 hK10; refine wp_region_lit ?_
    refine xldb 0 H rfl rfl rfl ?_
    refine xas rfl ?_; refine xas rfl ?_; refine wpList_nil ?_; refine tn ?_; refine hK10 _ _ ?_; clear hK10 K10; refine wp_ret ?_
    replace H := H.keeps [1] rfl
    refine hQ _ _ _ ?_; refine r2 rfl rfl rfl H ?_
    rw [if_neg (by simpa using h)]
    exact ⟨ao, cap, rfl, rfl⟩
end Go.Proofs.YtegllbmkkfnajaaGreatDoor
end
section
namespace Go.Proofs.YtegllbmkkfnajaaGreatDoor
open Go Go.Proofs
attribute [local irreducible] Go.wpList Go.Code.wp St Fn mk
set_option maxRecDepth 20000
def setF (r : Rec) (i v : Nat) : Rec := if i = 3 then { r with lease := v } else if i = 4 then { r with n := v } else { r with bits := v }
def decStep (bs : List UInt8) (s : Rec × Nat × Int) (i : Nat) : Rec × Nat × Int := (setF s.1 i (le (ctake bs s.2.1 s.2.2 8).1), (ctake bs s.2.1 s.2.2 8).2.1, (ctake bs s.2.1 s.2.2 8).2.2)
def withK (k : Int) (r : Rec) : Rec := { r with kind := k }
theorem c_dec1 (bs : List UInt8) (hl : bs.length ≤ 1099511627776) (k : Int) (p c b i : Nat) (s : Rec × Nat × Int) (ha : s.2.1 ≤ bs.length) (hi : i = 3 ∨ i = 4 ∨ i = 5) :
    Fn Tryz.prog 162 [.pointer (some ⟨p, i, none⟩), .pointer (some ⟨b, 0, none⟩)] [blk p (recV (withK k s.1)) recT, blk b [.pointer (some ⟨c, 0, none⟩)] 129, curs c bs s.2.1 s.2.2]
      (Ret fun v L => v = .tuple #[] ∧ L = [blk p (recV (withK k (decStep bs s i).1)) recT, blk b [.pointer (some ⟨c, 0, none⟩)] 129, curs c bs (decStep bs s i).2.1 (decStep bs s i).2.2]) := by
  obtain ⟨r, at_, err⟩ := s
  simp only at ha
  unfold decStep setF
  refine Fn.intro Tryz.call162 Tryz.func162 rfl Tryz.ntmps162 rfl ?_; intro g w Q hQ H
  rcases hi with rfl | rfl | rfl
  · refine wp_region_lit ?_; refine xmv rfl ?_
    refine xldb 1 H rfl rfl rfl ?_
    refine xc [2] H ((c_number c bs at_ err 8 hl ha (by simp))) rfl rfl rfl rfl rfl ?_; rintro _ _ w ⟨rfl, rfl⟩ H; replace H := H.ap rfl
    refine xnc rfl ?_
    (refine xst 1 H rfl rfl rfl rfl rfl ?_; intro w H)
    refine wpList_nil ?_
    replace H := H.keeps [0, 1, 0] rfl
    refine hQ _ _ _ ?_; refine n0 rfl H ?_
    exact ⟨rfl, rfl⟩
  · refine wp_region_lit ?_; refine xmv rfl ?_
    refine xldb 1 H rfl rfl rfl ?_
    refine xc [2] H ((c_number c bs at_ err 8 hl ha (by simp))) rfl rfl rfl rfl rfl ?_; rintro _ _ w ⟨rfl, rfl⟩ H; replace H := H.ap rfl
    refine xnc rfl ?_
    (refine xst 1 H rfl rfl rfl rfl rfl ?_; intro w H)
    refine wpList_nil ?_
    replace H := H.keeps [0, 1, 0] rfl
    refine hQ _ _ _ ?_; refine n0 rfl H ?_
    exact ⟨rfl, rfl⟩
  · refine wp_region_lit ?_; refine xmv rfl ?_
    refine xldb 1 H rfl rfl rfl ?_
    refine xc [2] H ((c_number c bs at_ err 8 hl ha (by simp))) rfl rfl rfl rfl rfl ?_; rintro _ _ w ⟨rfl, rfl⟩ H; replace H := H.ap rfl
    refine xnc rfl ?_
    (refine xst 1 H rfl rfl rfl rfl rfl ?_; intro w H)
    refine wpList_nil ?_
    replace H := H.keeps [0, 1, 0] rfl
    refine hQ _ _ _ ?_; refine n0 rfl H ?_
    exact ⟨rfl, rfl⟩
def rec0 : Rec := ⟨0, 0, [], 0, 0, 0⟩
def decHead (bs : List UInt8) : Rec × Nat × Int :=
  let a := ctake bs 0 0 1
  let b := ctake bs a.2.1 a.2.2 8
  let c := ctext bs b.2.1 b.2.2 1 16
  (⟨le b.1, le a.1, c.1, 0, 0, 0⟩, c.2)
def decAll (bs : List UInt8) : Rec × Nat × Int := eachS (decStep bs) (le (ctake bs 0 0 1).1) (decHead bs)
def recDec (bs : List UInt8) : Except Int Rec :=
  if (ctake bs 0 0 1).2.2 = 0 ∧ rknown (le (ctake bs 0 0 1).1) = false then .error 5
  else if cdone bs (decAll bs).2.1 (decAll bs).2.2 ≠ 0 then .error (cdone bs (decAll bs).2.1 (decAll bs).2.2)
  else if recCheck (withK (le (ctake bs 0 0 1).1) (decAll bs).1) ≠ 0 then .error (recCheck (withK (le (ctake bs 0 0 1).1) (decAll bs).1))
  else .ok (withK (le (ctake bs 0 0 1).1) (decAll bs).1)
def recR (A : List Asn) (r : Except Int Rec) (v : Value) (L : List Asn) : Prop :=
  match r with
  | .ok r => v = .tuple #[.agg (recV r).toArray, .int .i64 0] ∧ L = A
  | .error e => v = .tuple #[.agg (recV rec0).toArray, .int .i64 e] ∧ L = A
theorem decStep_le {bs : List UInt8} {s : Rec × Nat × Int} {i : Nat} (h : s.2.1 ≤ bs.length) : (decStep bs s i).2.1 ≤ bs.length := ctake_le h
theorem decHead_le (bs : List UInt8) : (decHead bs).2.1 ≤ bs.length := ctext_le (ctake_le (ctake_le (Nat.zero_le _)))
theorem le1_lt {bs : List UInt8} {a : Nat} {e : Int} : le (ctake bs a e 1).1 < 256 := by
  have h := le_lt (ctake bs a e 1).1
  have hl : (ctake bs a e 1).1.length ≤ 1 := by
    unfold ctake; split
    · simp
    · split
      · simp
      · simp; omega
  exact Nat.lt_of_lt_of_le h (Nat.le_trans (Nat.pow_le_pow_right (by decide) hl) (by decide))
theorem le8_lt {bs : List UInt8} {a : Nat} {e : Int} {k : Nat} (hk : k ≤ 8) : le (ctake bs a e k).1 < 18446744073709551616 := by
  have h := le_lt (ctake bs a e k).1
  have hl : (ctake bs a e k).1.length ≤ k := by
    unfold ctake; split
    · simp
    · split
      · simp
      · simp; omega
  exact Nat.lt_of_lt_of_le h (Nat.le_trans (Nat.pow_le_pow_right (by decide) (Nat.le_trans hl hk)) (by decide))
theorem eachS_inv {σ : Type} {step : σ → Nat → σ} {P : σ → Prop} {k : Int} {s : σ} (h0 : P s) (hs : ∀ s i, P s → P (step s i)) : P (eachS step k s) := by
  unfold eachS
  simp only
  have h1 : P (if hasL k = true then step s 3 else s) := by split; exact hs _ _ h0; exact h0
  have h2 : P (if hasN k = true then step (if hasL k = true then step s 3 else s) 4 else (if hasL k = true then step s 3 else s)) := by split; exact hs _ _ h1; exact h1
  split
  · exact hs _ _ h2
  · exact h2
theorem decAll_le (bs : List UInt8) : (decAll bs).2.1 ≤ bs.length := eachS_inv (P := fun s : Rec × Nat × Int => s.2.1 ≤ bs.length) (decHead_le bs) (fun _ _ h => decStep_le h)
theorem decAll_ok (bs : List UInt8) : (withK (le (ctake bs 0 0 1).1) (decAll bs).1).ok := by
  have h : (fun s : Rec × Nat × Int => s.1.seq < 18446744073709551616 ∧ s.1.lease < 18446744073709551616 ∧ s.1.n < 18446744073709551616 ∧ s.1.bits < 18446744073709551616) (decAll bs) := by
    refine eachS_inv (P := fun s : Rec × Nat × Int => s.1.seq < 18446744073709551616 ∧ s.1.lease < 18446744073709551616 ∧ s.1.n < 18446744073709551616 ∧ s.1.bits < 18446744073709551616) ⟨le8_lt (by decide), (show (0 : Nat) < 18446744073709551616 by decide), (show (0 : Nat) < 18446744073709551616 by decide), (show (0 : Nat) < 18446744073709551616 by decide)⟩ (fun s i h => ?_)
    have h8 : le (ctake bs s.2.1 s.2.2 8).1 < 18446744073709551616 := le8_lt (by decide)
    unfold decStep setF
    split
    · exact ⟨h.1, h8, h.2.2.1, h.2.2.2⟩
    · split
      · exact ⟨h.1, h.2.1, h8, h.2.2.2⟩
      · exact ⟨h.1, h.2.1, h.2.2.1, h8⟩
  have h1 := @le1_lt bs 0 0
  exact ⟨h.1, h.2.1, h.2.2.1, h.2.2.2, by show -9223372036854775808 ≤ ((le (ctake bs 0 0 1).1 : Nat) : Int) ∧ ((le (ctake bs 0 0 1).1 : Nat) : Int) ≤ 9223372036854775807; omega⟩
theorem c_decode (A : Asn) (ao : Option Addr) (cap : Nat) (bs : List UInt8) (hr : Bys A ao bs) (hl : bs.length ≤ 1099511627776) :
    Fn Tryz.prog 134 [.slice ao bs.length cap] [A] (Ret (recR [A] (recDec bs))) := by
  unfold recDec
  refine Fn.intro Tryz.call134 Tryz.func134 rfl Tryz.ntmps134 rfl ?_; intro g w Q hQ H
  refine sq ?_; intro K1 hK1; refine wp_region_lit ?_; refine xal H ?_; intro b2 w H; refine xas rfl ?_; refine wpList_nil ?_
  refine tn ?_; refine hK1 _ _ ?_; clear hK1 K1; refine sq ?_; intro K2 hK2; refine wp_region_lit ?_; refine xmv rfl ?_
  refine xc [1] H ((c_newcur A ao cap bs hr hl)) rfl rfl rfl rfl rfl ?_; rintro _ _ w ⟨c, rfl, rfl⟩ H; replace H := H.ap rfl
  refine xal H ?_; intro b4 w H
  (refine xst 0 H rfl rfl rfl rfl rfl ?_; intro w H)
  refine wpList_nil ?_; refine tn ?_; refine hK2 _ _ ?_; clear hK2 K2; refine sq ?_; intro K3 hK3; refine wp_region_lit ?_
  refine xldb 0 H rfl rfl rfl ?_
  refine xc [1] H ((c_number c bs 0 0 1 hl (by omega) (by simp))) rfl rfl rfl rfl rfl ?_; rintro _ _ w ⟨rfl, rfl⟩ H; replace H := H.ap rfl
  obtain ⟨q1, hq1⟩ : ∃ q, ctake bs 0 0 1 = q := ⟨_, rfl⟩
  rw [hq1] at H
  rw [hq1]
  have hat1 : q1.2.1 ≤ bs.length := hq1 ▸ ctake_le (Nat.zero_le _)
  have hv1 : le q1.1 < 256 := hq1 ▸ le1_lt
  refine xcvi rfl (wi64 (by omega)) ?_
  refine xbu rfl ?_; refine xal H ?_; intro b5 w H
  (refine xsta 0 H rfl rfl rfl rfl rfl rfl ?_; intro w H)
  refine wpList_nil ?_; refine tn ?_; refine hK3 _ _ ?_; clear hK3 K3; refine sq ?_; intro K4 hK4; refine sq ?_; intro K5 hK5; refine wp_region_lit ?_
  refine xldb 2 H rfl rfl rfl ?_
  obtain ⟨l1, a1, e1⟩ := q1
  simp only at hat1 hv1 H ⊢
  refine xc [1] H ((c_err c bs a1 e1)) rfl rfl rfl rfl rfl ?_; rintro _ _ w ⟨rfl, rfl⟩ H; replace H := H.ap rfl
  refine xeq rfl rfl ?_; refine xmv rfl ?_; refine jand (b := ?b1) 5 17 [18, 19, 20, 21] 22 rfl rfl H (fun hhc1 hc1 => ?a1) (fun hhc1 hc1 => ?o1) ?_
  case a1 =>
    refine xgy rfl rfl rfl ?_; refine xfa rfl ?_; refine xgy rfl rfl rfl ?_
    refine xldb 1 H rfl rfl rfl ?_
    refine xgy rfl rfl rfl ?_
    refine xc [] H ((c_rknown (le l1))) rfl rfl rfl rfl rfl ?_; rintro _ _ w ⟨rfl, rfl⟩ H; replace H := H.ap rfl
    refine xgy rfl rfl rfl ?_; refine xnt rfl ?_; refine xpkt rfl rfl ?_; exact hc1 _ _ _ _ _ H
  case o1 =>
    refine xgn rfl rfl rfl ?_; refine xgn rfl rfl rfl ?_; refine xgn rfl rfl rfl ?_; refine xgn rfl rfl rfl ?_; refine xpkf rfl rfl ?_; exact hc1 _ _ _ _ _ H
  intro u18 u19 u20 u21 w H; refine wpList_nil ?_; refine tn ?_; refine hK5 _ _ ?_; clear hK5 K5
  refine if_ rfl (fun h => ?_) (fun h => ?_)
  · have h : e1 = 0 ∧ rknown (le l1) = false := by simpa using h
    refine sq ?_; intro K6 hK6; refine wp_region_lit ?_; refine xbu rfl ?_
    (refine xsta 4 H rfl rfl rfl rfl rfl rfl ?_; intro w H)
    refine xas rfl ?_; refine wpList_nil ?_; refine tn ?_; refine hK6 _ _ ?_; clear hK6 K6; refine wp_ret ?_; refine tr ?_; clear hK4 K4
    refine hQ _ _ _ ?_
    refine rca1 0 [4] rfl rfl rfl H rfl (blk_cells (k := 6) rfl rfl) rfl rfl ?_
    simp only [hq1]
    rw [if_pos h]; exact ⟨rfl, rfl⟩
  · have h : ¬ (e1 = 0 ∧ rknown (le l1) = false) := by simpa using h
    refine wp_skip ?_; refine tn ?_; refine hK4 _ _ ?_; clear hK4 K4; refine sq ?_; intro K6 hK6; refine wp_region_lit ?_
    refine xldb 2 H rfl rfl rfl ?_
    refine xc [0] H ((c_number c bs a1 e1 8 hl hat1 (by simp))) rfl rfl rfl rfl rfl ?_; rintro _ _ w ⟨rfl, rfl⟩ H; replace H := H.ap rfl
    obtain ⟨q2, hq2⟩ : ∃ q, ctake bs a1 e1 8 = q := ⟨_, rfl⟩
    rw [hq2] at H ⊢
    have hat2 : q2.2.1 ≤ bs.length := hq2 ▸ ctake_le hat1
    obtain ⟨l2, a2, e2⟩ := q2
    simp only at hat2 H ⊢
    refine xfa rfl ?_
    (refine xst 1 H rfl rfl rfl rfl rfl ?_; intro w H)
    refine wpList_nil ?_; refine tn ?_; refine hK6 _ _ ?_; clear hK6 K6; refine sq ?_; intro K7 hK7; refine wp_region_lit ?_
    refine xldb 2 H rfl rfl rfl ?_
    refine xc [1] H ((c_text c bs a2 e2 1 16 hl hat2 (by simp) (by decide))) rfl rfl rfl rfl rfl ?_; rintro _ _ w ⟨rfl, rfl⟩ H; replace H := H.ap rfl
    obtain ⟨q3, hq3⟩ : ∃ q, ctext bs a2 e2 1 16 = q := ⟨_, rfl⟩
    rw [hq3] at H ⊢
    have hat3 : q3.2.1 ≤ bs.length := hq3 ▸ ctext_le hat2
    obtain ⟨t, a3, e3⟩ := q3
    simp only at hat3 H ⊢
    have hhead : decHead bs = (⟨le l2, le l1, t, 0, 0, 0⟩, a3, e3) := by unfold decHead; simp only [hq1, hq2, hq3]
    refine xfa rfl ?_
    (refine xst 1 H rfl rfl rfl rfl rfl ?_; intro w H)
    refine wpList_nil ?_; refine tn ?_; refine hK7 _ _ ?_; clear hK7 K7; refine sq ?_; intro K8 hK8; refine wp_region_lit ?_; refine xmf rfl rfl ?_
    replace H := H.keeps [0, 1, 0, 0, 0] rfl
    refine xcw H ((c_each (decStep bs) (fun s => [blk b4 [.pointer (some ⟨c, 0, none⟩)] 129, curs c bs s.2.1 s.2.2, A, blk b2 (recV rec0) recT]) (fun s => recV (withK (le l1) s.1)) b5 162 [.pointer (some ⟨b4, 0, none⟩)] (le l1) (fun _ => rfl) (fun _ s => s.2.1 ≤ bs.length) (fun j s i _ h => decStep_le h) (fun j s _ h => h) (fun j s i h hi => (c_dec1 bs hl (le l1) b5 c b4 i s h hi).frame [A, blk b2 (recV rec0) recT]) (⟨le l2, le l1, t, 0, 0, 0⟩, a3, e3) hat3)) rfl rfl rfl rfl ?_; rintro _ _ w ⟨rfl, rfl⟩ H
    rw [← hhead] at H
    have hall : eachS (decStep bs) (le l1) (decHead bs) = decAll bs := by unfold decAll; rw [hq1]
    have hatd := decAll_le bs
    have hok := decAll_ok bs
    simp only [hall] at H
    rw [hq1] at hok
    generalize decAll bs = d at *
    refine wpList_nil ?_; refine tn ?_; refine hK8 _ _ ?_; clear hK8 K8; refine sq ?_; intro K9 hK9; refine sq ?_; intro K10 hK10; refine wp_region_lit ?_
    refine xldb 1 H rfl rfl rfl ?_
    refine xc [2] H ((c_done c bs d.2.1 d.2.2 hl hatd)) rfl rfl rfl rfl rfl ?_; rintro _ _ w ⟨rfl, rfl⟩ H; replace H := H.ap rfl
    refine xas rfl ?_; refine wpList_nil ?_; refine tn ?_; refine hK10 _ _ ?_; clear hK10 K10; refine sq ?_; intro K11 hK11; refine wp_region_lit ?_
    refine xmv rfl ?_; refine xne rfl rfl ?_; refine wpList_nil ?_; refine tn ?_; refine hK11 _ _ ?_; clear hK11 K11
    refine if_ rfl (fun h6 => ?_) (fun h6 => ?_)
    · refine sq ?_; intro K12 hK12; refine wp_region_lit ?_; refine xbu rfl ?_; refine xmv rfl ?_
      (refine xsta 4 H rfl rfl rfl rfl rfl rfl ?_; intro w H)
      refine xas rfl ?_; refine wpList_nil ?_; refine tn ?_; refine hK12 _ _ ?_; clear hK12 K12; refine wp_ret ?_; refine tr ?_; clear hK9 K9
      refine hQ _ _ _ ?_
      refine rca1 0 [4] rfl rfl rfl H rfl (blk_cells (k := 6) rfl rfl) rfl rfl ?_
      simp only [hq1]
      rw [if_neg h, if_pos (by simpa using h6)]; exact ⟨rfl, rfl⟩
    · have h6 : ¬ cdone bs d.2.1 d.2.2 ≠ 0 := by simpa using h6
      refine wp_skip ?_; refine tn ?_; refine hK9 _ _ ?_; clear hK9 K9; refine sq ?_; intro K12 hK12; refine sq ?_; intro K13 hK13; refine wp_region_lit ?_
      refine xldab 1 H rfl rfl rfl rfl ?_
      refine xc [] H ((c_rcheck (withK (le l1) d.1) hok)) rfl rfl rfl rfl rfl ?_; rintro _ _ w ⟨rfl, rfl⟩ H; replace H := H.ap rfl
      refine xas rfl ?_; refine wpList_nil ?_; refine tn ?_; refine hK13 _ _ ?_; clear hK13 K13; refine sq ?_; intro K14 hK14; refine wp_region_lit ?_
      refine xmv rfl ?_; refine xne rfl rfl ?_; refine wpList_nil ?_; refine tn ?_; refine hK14 _ _ ?_; clear hK14 K14
      refine if_ rfl (fun h7 => ?_) (fun h7 => ?_)
      · refine sq ?_; intro K15 hK15; refine wp_region_lit ?_; refine xbu rfl ?_; refine xmv rfl ?_
        (refine xsta 4 H rfl rfl rfl rfl rfl rfl ?_; intro w H)
        refine xas rfl ?_; refine wpList_nil ?_; refine tn ?_; refine hK15 _ _ ?_; clear hK15 K15; refine wp_ret ?_; refine tr ?_; clear hK12 K12
        refine hQ _ _ _ ?_
        refine rca1 0 [4] rfl rfl rfl H rfl (blk_cells (k := 6) rfl rfl) rfl rfl ?_
        simp only [hq1]
        rw [if_neg h, if_neg h6, if_pos (by simpa using h7)]; exact ⟨rfl, rfl⟩
      · refine wp_skip ?_; refine tn ?_; refine hK12 _ _ ?_; clear hK12 K12; refine sq ?_; intro K15 hK15; refine wp_region_lit ?_
        refine xldab 1 H rfl rfl rfl rfl ?_
        (refine xsta 4 H rfl rfl rfl rfl rfl rfl ?_; intro w H)
        refine xas rfl ?_; refine wpList_nil ?_; refine tn ?_; refine hK15 _ _ ?_; clear hK15 K15; refine wp_ret ?_
        refine hQ _ _ _ ?_
        refine rca1 0 [4] rfl rfl rfl H rfl (blk_cells (k := 6) rfl rfl) rfl rfl ?_
        simp only [hq1]
        rw [if_neg h, if_neg h6, if_neg (by simpa using h7)]; exact ⟨rfl, rfl⟩
end Go.Proofs.YtegllbmkkfnajaaGreatDoor
end
section
namespace Go.Proofs.YtegllbmkkfnajaaGreatDoor
open Go Go.Proofs
attribute [local irreducible] Go.wpList Go.Code.wp St Fn mk
set_option maxRecDepth 20000
def beF (n : Nat) (b : UInt8) : Nat := (n <<< 8 % 18446744073709551616) ||| b.toNat
def segNum (s : List UInt8) : Option Nat :=
  if s.length ≠ 17 ∨ s.take 1 ≠ [119] then none else match unhex (s.drop 1) with | some bs => some (bs.foldl beF 0) | none => none
def numR (r : Option Nat) (v : Value) (L : List Asn) : Prop :=
  match r with
  | some n => v = .tuple #[.int .u64 (n : Nat), .int .i64 0] ∧ L = []
  | none => v = .tuple #[.int .u64 0, .int .i64 2] ∧ L = []
theorem beF_lt (n : Nat) (b : UInt8) : beF n b < 18446744073709551616 := by
  have hb := b.toNat_lt
  exact Nat.or_lt_two_pow (n := 64) (Nat.mod_lt _ (by decide)) (by omega)
theorem unhex_len {bs r : List UInt8} (h : unhex bs = some r) : r.length ≤ bs.length := by
  unfold unhex at h
  split at h
  · cases h; simp
  · split at h
    · cases h
    · have := unhexGo_len _ _ _ _ h
      rw [List.length_replicate] at this; omega
theorem c_bytes_none (bs : List UInt8) (hl : bs.length ≤ 16777216) (h : unhex bs = none) : Fn Tryz.prog 127 [.string (str bs)] [] (Ret fun v L => v = .tuple #[.slice none 0 0, .int .i64 2] ∧ L = []) := by
  have := c_bytes bs hl; rw [h] at this; exact this
theorem c_bytes_some (bs r : List UInt8) (hl : bs.length ≤ 16777216) (h : unhex bs = some r) : Fn Tryz.prog 127 [.string (str bs)] [] (Ret fun v L => ∃ ao cap, v = .tuple #[.slice ao r.length cap, .int .i64 0] ∧ L = [own ao cap 5 1 r.length (bv r)]) := by
  have := c_bytes bs hl; rw [h] at this; exact this
theorem c_segnum (s : List UInt8) (hs : s.length ≤ 16777216) : Fn Tryz.prog 90 [.string (str s)] [] (Ret (numR (segNum s))) := by
  unfold segNum
  refine Fn.intro Tryz.call90 Tryz.func90 rfl Tryz.ntmps90 rfl ?_; intro g w Q hQ H
  refine sq ?_; intro K1 hK1; refine wp_region_lit ?_; refine xas rfl ?_; refine xas rfl ?_; refine wpList_nil ?_; refine tn ?_; refine hK1 _ _ ?_; clear hK1 K1
  refine sq ?_; intro K2 hK2; refine sq ?_; intro K3 hK3; refine wp_region_lit ?_; refine xmv rfl ?_
  refine xlsS rfl ?_
  refine xne rfl rfl ?_; refine xmv rfl ?_; refine jor (b := ?b1) 4 12 [13, 14, 15] 16 rfl rfl H (fun hhc1 hc1 => ?a1) (fun hhc1 hc1 => ?o1) ?_
  case a1 =>
    refine xgy rfl rfl rfl ?_; refine xmv rfl ?_; refine xgy rfl rfl rfl ?_
    have h17 : s.length = 17 := by simp at hhc1; omega
    refine xssS 0 1 rfl rfl ⟨_, rfl⟩ (by decide) (by omega) ?_
    refine xgy rfl rfl rfl ?_
    refine xsneS rfl rfl ?_
    refine xpkf rfl rfl ?_; exact hc1 _ _ _ _ H
  case o1 =>
    refine xgn rfl rfl rfl ?_; refine xgn rfl rfl rfl ?_; refine xgn rfl rfl rfl ?_; refine xpkt rfl rfl ?_; exact hc1 _ _ _ _ H
  intro u13 u14 u15 w H; refine wpList_nil ?_; refine tn ?_; refine hK3 _ _ ?_; clear hK3 K3
  refine if_ rfl (fun h => ?_) (fun h => ?_)
  · have h : s.length ≠ 17 ∨ s.take 1 ≠ [119] := by
      by_cases h1 : s.length = 17
      · right; rw [h1] at h; intro e; rw [List.drop_zero, e] at h; simp at h
      · exact .inl h1
    refine sq ?_; intro K4 hK4; refine wp_region_lit ?_; refine xas rfl ?_; refine xas rfl ?_; refine wpList_nil ?_; refine tn ?_; refine hK4 _ _ ?_; clear hK4 K4
    refine wp_ret ?_; refine tr ?_; clear hK2 K2
    refine hQ _ _ _ ?_; refine r2 rfl rfl rfl H ?_
    rw [if_pos h]; exact ⟨rfl, rfl⟩
  · have h : ¬ (s.length ≠ 17 ∨ s.take 1 ≠ [119]) := by
      by_cases h1 : s.length = 17
      · rw [h1, List.drop_zero] at h
        intro e
        rcases e with e | e
        · exact e h1
        · apply e; simpa using h
      · exfalso; simp at h; omega
    have hl : s.length = 17 := Classical.not_not.1 (fun e => h (.inl e))
    rw [if_neg h] at hQ
    have hdl : (s.drop 1).length ≤ 16777216 := by simp; omega
    refine wp_skip ?_; refine tn ?_; refine hK2 _ _ ?_; clear hK2 K2; refine sq ?_; intro K4 hK4; refine wp_region_lit ?_; refine xmv rfl ?_
    refine xssS 1 17 rfl ⟨_, rfl⟩ hl.symm (by decide) (by omega) ?_
    rw [show (s.take 17).drop 1 = s.drop 1 by rw [List.take_of_length_le (by omega)]]
    rcases hu : unhex (s.drop 1) with _ | bs
    · rw [hu] at hQ
      refine xc [] H ((c_bytes_none _ hdl hu)) rfl rfl rfl rfl rfl ?_; rintro _ _ w ⟨rfl, rfl⟩ H; replace H := H.ap rfl
      refine xmv rfl ?_; refine xex rfl rfl ?_; refine xex rfl rfl ?_; refine xas rfl ?_; refine xas rfl ?_; refine wpList_nil ?_
      refine tn ?_; refine hK4 _ _ ?_; clear hK4 K4; refine sq ?_; intro K5 hK5; refine sq ?_; intro K6 hK6; refine wp_region_lit ?_; refine xmv rfl ?_
      refine xne rfl rfl ?_; refine wpList_nil ?_; refine tn ?_; refine hK6 _ _ ?_; clear hK6 K6; refine ift rfl ?_; refine sq ?_; intro K7 hK7
      refine wp_region_lit ?_; refine xas rfl ?_; refine xas rfl ?_; refine wpList_nil ?_; refine tn ?_; refine hK7 _ _ ?_; clear hK7 K7; refine wp_ret ?_
      refine tr ?_; clear hK5 K5
      refine hQ _ _ _ ?_; refine r2 rfl rfl rfl H ?_
      exact ⟨rfl, rfl⟩
    · rw [hu] at hQ
      have hbl : bs.length ≤ 1099511627776 := by have := unhex_len hu; omega
      refine xc [] H ((c_bytes_some _ bs hdl hu)) rfl rfl rfl rfl rfl ?_; rintro _ _ w ⟨ao, cap, rfl, rfl⟩ H; replace H := H.ap rfl
      refine xmv rfl ?_; refine xex rfl rfl ?_; refine xex rfl rfl ?_; refine xas rfl ?_; refine xas rfl ?_; refine wpList_nil ?_
      refine tn ?_; refine hK4 _ _ ?_; clear hK4 K4; refine sq ?_; intro K5 hK5; refine sq ?_; intro K6 hK6; refine wp_region_lit ?_; refine xmv rfl ?_
      refine xne rfl rfl ?_; refine wpList_nil ?_; refine tn ?_; refine hK6 _ _ ?_; clear hK6 K6; refine iff_ rfl ?_; refine wp_skip ?_
      refine tn ?_; refine hK5 _ _ ?_; clear hK5 K5; refine sq ?_; intro K7 hK7; refine wp_region_lit ?_; refine xas rfl ?_; refine wpList_nil ?_
      refine tn ?_; refine hK7 _ _ ?_; clear hK7 K7; refine sq ?_; intro K8 hK8; refine sq ?_; intro K9 hK9; refine wp_region_lit ?_; refine xmv rfl ?_
      refine xli rfl ?_; refine xmv rfl ?_; refine wpList_nil ?_; refine tn ?_; refine hK9 _ _ ?_; clear hK9 K9; refine wp_block ?_
      refine lp2 (α := Nat) (β := Nat) (fun k n => [(6, .int .u64 n), (25, .slice ao bs.length cap), (26, .int .i64 bs.length), (27, .int .i64 k)]) (fun k n => [own ao cap 5 1 bs.length (bv bs)]) (fun k n => k ≤ bs.length ∧ n < 18446744073709551616 ∧ bs.foldl beF 0 = (bs.drop k).foldl beF n) (fun k n => bs.length - k) (0) (0) ⟨rfl, rfl, rfl, rfl, True.intro⟩ (⟨Nat.zero_le _, by decide, rfl⟩) H ?_; intro k n ρ w hI H K10 hK10
      obtain ⟨hk, hn, hf⟩ := hI
      refine sq ?_; intro K11 hK11; refine wp_region_lit ?_; refine xlt rfl rfl ?_; refine wpList_nil ?_; refine tn ?_; refine hK11 _ _ ?_; clear hK11 K11
      refine sq ?_; intro K12 hK12
      refine if_ rfl (fun h1 => ?_) (fun h1 => ?_)
      · have h1 : k < bs.length := by simp at h1; omega
        have hg : bs[k]? = some bs[k] := List.getElem?_eq_getElem h1
        have hdr : bs.drop k = bs[k] :: bs.drop (k + 1) := List.drop_eq_getElem_cons h1
        rw [hdr, List.foldl_cons] at hf
        have hb := beF_lt n bs[k]
        generalize bs[k] = c at hg hf hb
        have hc := c.toNat_lt
        have hr := H.ownRd
        refine wp_skip ?_; refine tn ?_; refine hK12 _ _ ?_; clear hK12 K12; refine sq ?_; intro K13 hK13; refine wp_block ?_; refine sq ?_; intro K14 hK14
        refine wp_region_lit ?_
        refine xi1r hr (bv_get hg) h1 rfl rfl rfl ?_; intro b29 o29 hx29
        refine xld 0 H rfl rfl hx29 ?_
        refine xas rfl ?_; refine wpList_nil ?_; refine tn ?_; refine hK14 _ _ ?_; clear hK14 K14; refine wp_region_lit ?_; refine xmv rfl ?_
        refine xsl_u64 (s := 8) rfl rfl ?_
        refine xmv rfl ?_
        refine xcvi rfl (wu64 (by omega)) ?_
        refine xor_u64 rfl rfl (by omega) (by omega) ?_
        refine xas rfl ?_; refine wpList_nil ?_; refine bn ?_; refine tn ?_; refine hK13 _ _ ?_; clear hK13 K13; refine wp_region_lit ?_
        refine xadi rfl rfl (wi64 (by omega)) ?_
        refine xmv rfl ?_; refine wpList_nil ?_
        refine tn ?_; refine hK10 _ _ (k + 1) (beF n c) ⟨rfl, rfl, rfl, rfl, True.intro⟩ ?_ H ?_
        exact ⟨h1, hb, hf⟩
        omega
      · have h1 : k = bs.length := by simp at h1; omega
        refine wp_exit ?_; refine te ?_; clear hK12 K12; refine te ?_; clear hK10 K10; refine be ?_; refine tn ?_; refine hK8 _ _ ?_; clear hK8 K8
        refine sq ?_; intro K13 hK13; refine wp_region_lit ?_; refine xmv rfl ?_; refine xas rfl ?_; refine xas rfl ?_; refine wpList_nil ?_
        refine tn ?_; refine hK13 _ _ ?_; clear hK13 K13; refine wp_ret ?_
        replace H := H.keeps [] rfl
        refine hQ _ _ _ ?_; refine r2 rfl rfl rfl H ?_
        have hf' : bs.foldl beF 0 = n := by rw [hf, h1, List.drop_length]; rfl
        show numR (some (bs.foldl beF 0)) _ _
        rw [hf']; exact ⟨rfl, rfl⟩
def segBox (r : Rec) : Except Int (List UInt8) := match recEnc r with | .error e => .error e | .ok b => boxB b
theorem recBytes_len {r : Rec} (h : recCheck r = 0) : (recBytes r).length ≤ 100 := by
  have ht := tenant_len (recCheck_zero h).2.1
  have h1 := each_len r (recHead r)
  have h2 : (recHead r).length = 10 + r.tenant.length := by unfold recHead; simp only [List.length_append, leB_len]
  unfold recBytes; omega
theorem c_encode_err {r : Rec} (hr : r.ok) (h : recCheck r ≠ 0) : Fn Tryz.prog 81 [.agg (recV r).toArray] [] (Ret fun v L => v = .tuple #[.slice none 0 0, .int .i64 (recCheck r)] ∧ L = []) := by
  have := c_encode r hr; unfold recEnc at this; rw [if_pos h] at this; exact this
theorem c_encode_ok {r : Rec} (hr : r.ok) (h : ¬ recCheck r ≠ 0) : Fn Tryz.prog 81 [.agg (recV r).toArray] [] (Ret fun v L => ∃ ao cap, v = .tuple #[.slice ao (recBytes r).length cap, .int .i64 0] ∧ L = [own ao cap 5 1 (recBytes r).length (bv (recBytes r))]) := by
  have := c_encode r hr; unfold recEnc at this; rw [if_neg h] at this; exact this
theorem c_bput_err {A : Asn} {ao : Option Addr} {cap : Nat} {bs : List UInt8} {e : Int} (hr : Bys A ao bs) (hl : bs.length ≤ 1099511627776) (h : boxB bs = .error e) :
    Fn Tryz.prog 82 [.slice none 0 0, .slice ao bs.length cap] [A] (Ret fun v L => v = .tuple #[.slice none 0 0, .int .i64 e] ∧ L = [A]) := by
  have := c_bput A ao cap bs hr hl; rw [h] at this; exact this
theorem c_bput_ok {A : Asn} {ao : Option Addr} {cap : Nat} {bs b : List UInt8} (hr : Bys A ao bs) (hl : bs.length ≤ 1099511627776) (h : boxB bs = .ok b) :
    Fn Tryz.prog 82 [.slice none 0 0, .slice ao bs.length cap] [A] (Ret fun v L => ∃ ao cap, v = .tuple #[.slice ao b.length cap, .int .i64 0] ∧ L = [own ao cap 5 1 b.length (bv b), A]) := by
  have := c_bput A ao cap bs hr hl; rw [h] at this; exact this
theorem c_segbox (r : Rec) (hr : r.ok) : Fn Tryz.prog 54 [.agg (recV r).toArray] [] (Ret (resB [] (segBox r))) := by
  unfold segBox recEnc
  refine Fn.intro Tryz.call54 Tryz.func54 rfl Tryz.ntmps54 rfl ?_; intro g w Q hQ H
  refine sq ?_; intro K1 hK1; refine wp_region_lit ?_; refine xbx H rfl rfl ?_; intro b1 w H; refine xas rfl ?_; refine xas rfl ?_; refine wpList_nil ?_
  refine tn ?_; refine hK1 _ _ ?_; clear hK1 K1; refine sq ?_; intro K2 hK2; refine wp_region_lit ?_
  refine xldab 0 H rfl rfl rfl rfl ?_
  by_cases h : recCheck r ≠ 0
  · rw [if_pos h] at hQ
    refine xc [] H ((c_encode_err hr h)) rfl rfl rfl rfl rfl ?_; rintro _ _ w ⟨rfl, rfl⟩ H; replace H := H.ap rfl
    refine xmv rfl ?_; refine xex rfl rfl ?_; refine xex rfl rfl ?_; refine xas rfl ?_; refine xas rfl ?_; refine wpList_nil ?_
    refine tn ?_; refine hK2 _ _ ?_; clear hK2 K2; refine sq ?_; intro K3 hK3; refine sq ?_; intro K4 hK4; refine wp_region_lit ?_; refine xmv rfl ?_
    refine xne rfl rfl ?_; refine wpList_nil ?_; refine tn ?_; refine hK4 _ _ ?_; clear hK4 K4
    refine if_ rfl (fun h2 => ?_) (fun h2 => ?_)
    · refine sq ?_; intro K5 hK5; refine wp_region_lit ?_; refine xmv rfl ?_; refine xas rfl ?_; refine xas rfl ?_; refine wpList_nil ?_
      refine tn ?_; refine hK5 _ _ ?_; clear hK5 K5; refine wp_ret ?_; refine tr ?_; clear hK3 K3
      replace H := H.keeps [] rfl
      refine hQ _ _ _ ?_; refine r2 rfl rfl rfl H ?_
      exact ⟨rfl, rfl⟩
    · exact absurd h (by simpa using h2)
  · rw [if_neg h] at hQ
    simp only at hQ
    have hl := recBytes_len (Classical.not_not.1 h)
    refine xc [] H ((c_encode_ok hr h)) rfl rfl rfl rfl rfl ?_; rintro _ _ w ⟨ao, cap, rfl, rfl⟩ H; replace H := H.ap rfl
    refine xmv rfl ?_; refine xex rfl rfl ?_; refine xex rfl rfl ?_; refine xas rfl ?_; refine xas rfl ?_; refine wpList_nil ?_
    refine tn ?_; refine hK2 _ _ ?_; clear hK2 K2; refine sq ?_; intro K3 hK3; refine sq ?_; intro K4 hK4; refine wp_region_lit ?_; refine xmv rfl ?_
    refine xne rfl rfl ?_; refine wpList_nil ?_; refine tn ?_; refine hK4 _ _ ?_; clear hK4 K4; refine iff_ rfl ?_; refine wp_skip ?_
    refine tn ?_; refine hK3 _ _ ?_; clear hK3 K3; refine sq ?_; intro K5 hK5; refine wp_region_lit ?_; refine xmv rfl ?_
    rcases hb : boxB (recBytes r) with e | b
    · rw [hb] at hQ
      refine xc [0] H ((c_bput_err H.ownRd (by omega) hb)) rfl rfl rfl rfl rfl ?_; rintro _ _ w ⟨rfl, rfl⟩ H; replace H := H.ap rfl
      refine xex rfl rfl ?_; refine xex rfl rfl ?_; refine xas rfl ?_; refine xas rfl ?_; refine wpList_nil ?_; refine tn ?_; refine hK5 _ _ ?_; clear hK5 K5
      refine wp_ret ?_
      replace H := H.keeps [] rfl
      refine hQ _ _ _ ?_; refine r2 rfl rfl rfl H ?_
      exact ⟨rfl, rfl⟩
    · rw [hb] at hQ
      refine xc [0] H ((c_bput_ok H.ownRd (by omega) hb)) rfl rfl rfl rfl rfl ?_; rintro _ _ w ⟨ao2, cap2, rfl, rfl⟩ H; replace H := H.ap rfl
      refine xex rfl rfl ?_; refine xex rfl rfl ?_; refine xas rfl ?_; refine xas rfl ?_; refine wpList_nil ?_; refine tn ?_; refine hK5 _ _ ?_; clear hK5 K5
      refine wp_ret ?_
      replace H := H.keeps [0] rfl
      refine hQ _ _ _ ?_; refine r2 rfl rfl rfl H ?_
      exact ⟨ao2, cap2, rfl, rfl⟩
end Go.Proofs.YtegllbmkkfnajaaGreatDoor
end
section
namespace Go.Proofs.YtegllbmkkfnajaaGreatDoor
open Go Go.Proofs
attribute [local irreducible] Go.wpList Go.Code.wp St Fn mk
set_option maxRecDepth 20000
def nameC (n : Nat) : Nat → List Value
  | 0 => [.int .u8 0, .int .u8 0, .int .u8 0, .int .u8 0, .int .u8 0, .int .u8 0, .int .u8 0, .int .u8 0]
  | k + 1 => setV (nameC n k) (7 - k) (byt n (8 * k))
def be8 (n : Nat) : List UInt8 := (leB 8 n).reverse
def segName (n : Nat) : List UInt8 := 119 :: hexs (be8 n)
theorem nameC8 (n : Nat) : nameC n 8 = bv (be8 n) := by
  have h : bv (be8 n) = (bv (leB 8 n)).reverse := by unfold be8 bv; rw [List.map_reverse]
  rw [h, bv_leB8]
  show [byt n 56, byt n 48, byt n 40, byt n 32, byt n 24, byt n 16, byt n 8, byt n 0] = _
  rfl
theorem be8_len (n : Nat) : (be8 n).length = 8 := by unfold be8; rw [List.length_reverse, leB_len]
theorem c_segname (n : Nat) (hn : n < 18446744073709551616) : Fn Tryz.prog 42 [.int .u64 n] [] (Ret fun v L => v = .string (str (segName n)) ∧ L = []) := by
  refine Fn.intro Tryz.call42 Tryz.func42 rfl Tryz.ntmps42 rfl ?_; intro g w Q hQ H
  refine sq ?_; intro K1 hK1; refine wp_region_lit ?_; refine xas rfl ?_; refine wpList_nil ?_; refine tn ?_; refine hK1 _ _ ?_; clear hK1 K1
  refine sq ?_; intro K2 hK2; refine wp_region_lit ?_; refine xal H ?_; intro b3 w H; refine wpList_nil ?_; refine tn ?_; refine hK2 _ _ ?_; clear hK2 K2
  refine sq ?_; intro K3 hK3; refine sq ?_; intro K4 hK4; refine wp_region_lit ?_; refine xmv rfl ?_; refine wpList_nil ?_
  refine tn ?_; refine hK4 _ _ ?_; clear hK4 K4; refine wp_block ?_
  refine lp2 (α := Nat) (β := List Value) (fun k c => [(0, .int .u64 n), (3, .pointer (some ⟨b3, 0, none⟩)), (5, .int .i64 k)]) (fun k c => [blk b3 c 109]) (fun k c => k ≤ 8 ∧ c = nameC n k) (fun k c => 8 - k) (0) (nameC n 0) ⟨rfl, rfl, rfl, True.intro⟩ (⟨Nat.zero_le _, rfl⟩) H ?_; intro k c ρ w hI H K5 hK5
  obtain ⟨hk, rfl⟩ := hI
  refine sq ?_; intro K6 hK6; refine wp_region_lit ?_; refine xlt rfl rfl ?_; refine wpList_nil ?_; refine tn ?_; refine hK6 _ _ ?_; clear hK6 K6
  refine sq ?_; intro K7 hK7
  refine if_ rfl (fun h => ?_) (fun h => ?_)
  · have h : k < 8 := by simp at h; omega
    have hsh : n >>> (8 * k) < 18446744073709551616 := Nat.lt_of_le_of_lt (by rw [Nat.shiftRight_eq_div_pow]; exact Nat.div_le_self _ _) hn
    rcases (by omega : k = 0 ∨ k = 1 ∨ k = 2 ∨ k = 3 ∨ k = 4 ∨ k = 5 ∨ k = 6 ∨ k = 7) with rfl | rfl | rfl | rfl | rfl | rfl | rfl | rfl
    · refine wp_skip ?_; refine tn ?_; refine hK7 _ _ ?_; clear hK7 K7; refine sq ?_; intro K8 hK8; refine wp_block ?_; refine sq ?_; intro K9 hK9
      refine wp_region_lit ?_; refine xmv rfl ?_; refine xas rfl ?_; refine wpList_nil ?_; refine tn ?_; refine hK9 _ _ ?_; clear hK9 K9; refine wp_region_lit ?_
      refine xmv rfl ?_
      refine xsbi rfl rfl (wi64 (by omega)) ?_
      refine xmv rfl ?_; refine xmv rfl ?_
      refine xmli rfl rfl (wi64 (by omega)) ?_
      refine xsr_u64 rfl rfl (by omega) ?_
      refine xcv_u8 rfl ?_
      refine xaa (j := 7) rfl rfl rfl (by decide) ?_
      (refine xst 0 H rfl rfl rfl rfl rfl ?_; intro w H)
      refine wpList_nil ?_; refine bn ?_; refine tn ?_; refine hK8 _ _ ?_; clear hK8 K8; refine wp_region_lit ?_
      refine xadi rfl rfl (wi64 (by omega)) ?_
      refine xmv rfl ?_; refine wpList_nil ?_
      refine tn ?_; refine hK5 _ _ (1) (nameC n 1) ⟨rfl, rfl, rfl, True.intro⟩ ?_ H ?_
      exact ⟨by decide, rfl⟩
      decide
    · refine wp_skip ?_; refine tn ?_; refine hK7 _ _ ?_; clear hK7 K7; refine sq ?_; intro K8 hK8; refine wp_block ?_; refine sq ?_; intro K9 hK9
      refine wp_region_lit ?_; refine xmv rfl ?_; refine xas rfl ?_; refine wpList_nil ?_; refine tn ?_; refine hK9 _ _ ?_; clear hK9 K9; refine wp_region_lit ?_
      refine xmv rfl ?_
      refine xsbi rfl rfl (wi64 (by omega)) ?_
      refine xmv rfl ?_; refine xmv rfl ?_
      refine xmli rfl rfl (wi64 (by omega)) ?_
      refine xsr_u64 rfl rfl (by omega) ?_
      refine xcv_u8 rfl ?_
      refine xaa (j := 6) rfl rfl rfl (by decide) ?_
      (refine xst 0 H rfl rfl rfl rfl rfl ?_; intro w H)
      refine wpList_nil ?_; refine bn ?_; refine tn ?_; refine hK8 _ _ ?_; clear hK8 K8; refine wp_region_lit ?_
      refine xadi rfl rfl (wi64 (by omega)) ?_
      refine xmv rfl ?_; refine wpList_nil ?_
      refine tn ?_; refine hK5 _ _ (2) (nameC n 2) ⟨rfl, rfl, rfl, True.intro⟩ ?_ H ?_
      exact ⟨by decide, rfl⟩
      decide
    · refine wp_skip ?_; refine tn ?_; refine hK7 _ _ ?_; clear hK7 K7; refine sq ?_; intro K8 hK8; refine wp_block ?_; refine sq ?_; intro K9 hK9
      refine wp_region_lit ?_; refine xmv rfl ?_; refine xas rfl ?_; refine wpList_nil ?_; refine tn ?_; refine hK9 _ _ ?_; clear hK9 K9; refine wp_region_lit ?_
      refine xmv rfl ?_
      refine xsbi rfl rfl (wi64 (by omega)) ?_
      refine xmv rfl ?_; refine xmv rfl ?_
      refine xmli rfl rfl (wi64 (by omega)) ?_
      refine xsr_u64 rfl rfl (by omega) ?_
      refine xcv_u8 rfl ?_
      refine xaa (j := 5) rfl rfl rfl (by decide) ?_
      (refine xst 0 H rfl rfl rfl rfl rfl ?_; intro w H)
      refine wpList_nil ?_; refine bn ?_; refine tn ?_; refine hK8 _ _ ?_; clear hK8 K8; refine wp_region_lit ?_
      refine xadi rfl rfl (wi64 (by omega)) ?_
      refine xmv rfl ?_; refine wpList_nil ?_
      refine tn ?_; refine hK5 _ _ (3) (nameC n 3) ⟨rfl, rfl, rfl, True.intro⟩ ?_ H ?_
      exact ⟨by decide, rfl⟩
      decide
    · refine wp_skip ?_; refine tn ?_; refine hK7 _ _ ?_; clear hK7 K7; refine sq ?_; intro K8 hK8; refine wp_block ?_; refine sq ?_; intro K9 hK9
      refine wp_region_lit ?_; refine xmv rfl ?_; refine xas rfl ?_; refine wpList_nil ?_; refine tn ?_; refine hK9 _ _ ?_; clear hK9 K9; refine wp_region_lit ?_
      refine xmv rfl ?_
      refine xsbi rfl rfl (wi64 (by omega)) ?_
      refine xmv rfl ?_; refine xmv rfl ?_
      refine xmli rfl rfl (wi64 (by omega)) ?_
      refine xsr_u64 rfl rfl (by omega) ?_
      refine xcv_u8 rfl ?_
      refine xaa (j := 4) rfl rfl rfl (by decide) ?_
      (refine xst 0 H rfl rfl rfl rfl rfl ?_; intro w H)
      refine wpList_nil ?_; refine bn ?_; refine tn ?_; refine hK8 _ _ ?_; clear hK8 K8; refine wp_region_lit ?_
      refine xadi rfl rfl (wi64 (by omega)) ?_
      refine xmv rfl ?_; refine wpList_nil ?_
      refine tn ?_; refine hK5 _ _ (4) (nameC n 4) ⟨rfl, rfl, rfl, True.intro⟩ ?_ H ?_
      exact ⟨by decide, rfl⟩
      decide
    · refine wp_skip ?_; refine tn ?_; refine hK7 _ _ ?_; clear hK7 K7; refine sq ?_; intro K8 hK8; refine wp_block ?_; refine sq ?_; intro K9 hK9
      refine wp_region_lit ?_; refine xmv rfl ?_; refine xas rfl ?_; refine wpList_nil ?_; refine tn ?_; refine hK9 _ _ ?_; clear hK9 K9; refine wp_region_lit ?_
      refine xmv rfl ?_
      refine xsbi rfl rfl (wi64 (by omega)) ?_
      refine xmv rfl ?_; refine xmv rfl ?_
      refine xmli rfl rfl (wi64 (by omega)) ?_
      refine xsr_u64 rfl rfl (by omega) ?_
      refine xcv_u8 rfl ?_
      refine xaa (j := 3) rfl rfl rfl (by decide) ?_
      (refine xst 0 H rfl rfl rfl rfl rfl ?_; intro w H)
      refine wpList_nil ?_; refine bn ?_; refine tn ?_; refine hK8 _ _ ?_; clear hK8 K8; refine wp_region_lit ?_
      refine xadi rfl rfl (wi64 (by omega)) ?_
      refine xmv rfl ?_; refine wpList_nil ?_
      refine tn ?_; refine hK5 _ _ (5) (nameC n 5) ⟨rfl, rfl, rfl, True.intro⟩ ?_ H ?_
      exact ⟨by decide, rfl⟩
      decide
    · refine wp_skip ?_; refine tn ?_; refine hK7 _ _ ?_; clear hK7 K7; refine sq ?_; intro K8 hK8; refine wp_block ?_; refine sq ?_; intro K9 hK9
      refine wp_region_lit ?_; refine xmv rfl ?_; refine xas rfl ?_; refine wpList_nil ?_; refine tn ?_; refine hK9 _ _ ?_; clear hK9 K9; refine wp_region_lit ?_
      refine xmv rfl ?_
      refine xsbi rfl rfl (wi64 (by omega)) ?_
      refine xmv rfl ?_; refine xmv rfl ?_
      refine xmli rfl rfl (wi64 (by omega)) ?_
      refine xsr_u64 rfl rfl (by omega) ?_
      refine xcv_u8 rfl ?_
      refine xaa (j := 2) rfl rfl rfl (by decide) ?_
      (refine xst 0 H rfl rfl rfl rfl rfl ?_; intro w H)
      refine wpList_nil ?_; refine bn ?_; refine tn ?_; refine hK8 _ _ ?_; clear hK8 K8; refine wp_region_lit ?_
      refine xadi rfl rfl (wi64 (by omega)) ?_
      refine xmv rfl ?_; refine wpList_nil ?_
      refine tn ?_; refine hK5 _ _ (6) (nameC n 6) ⟨rfl, rfl, rfl, True.intro⟩ ?_ H ?_
      exact ⟨by decide, rfl⟩
      decide
    · refine wp_skip ?_; refine tn ?_; refine hK7 _ _ ?_; clear hK7 K7; refine sq ?_; intro K8 hK8; refine wp_block ?_; refine sq ?_; intro K9 hK9
      refine wp_region_lit ?_; refine xmv rfl ?_; refine xas rfl ?_; refine wpList_nil ?_; refine tn ?_; refine hK9 _ _ ?_; clear hK9 K9; refine wp_region_lit ?_
      refine xmv rfl ?_
      refine xsbi rfl rfl (wi64 (by omega)) ?_
      refine xmv rfl ?_; refine xmv rfl ?_
      refine xmli rfl rfl (wi64 (by omega)) ?_
      refine xsr_u64 rfl rfl (by omega) ?_
      refine xcv_u8 rfl ?_
      refine xaa (j := 1) rfl rfl rfl (by decide) ?_
      (refine xst 0 H rfl rfl rfl rfl rfl ?_; intro w H)
      refine wpList_nil ?_; refine bn ?_; refine tn ?_; refine hK8 _ _ ?_; clear hK8 K8; refine wp_region_lit ?_
      refine xadi rfl rfl (wi64 (by omega)) ?_
      refine xmv rfl ?_; refine wpList_nil ?_
      refine tn ?_; refine hK5 _ _ (7) (nameC n 7) ⟨rfl, rfl, rfl, True.intro⟩ ?_ H ?_
      exact ⟨by decide, rfl⟩
      decide
    · refine wp_skip ?_; refine tn ?_; refine hK7 _ _ ?_; clear hK7 K7; refine sq ?_; intro K8 hK8; refine wp_block ?_; refine sq ?_; intro K9 hK9
      refine wp_region_lit ?_; refine xmv rfl ?_; refine xas rfl ?_; refine wpList_nil ?_; refine tn ?_; refine hK9 _ _ ?_; clear hK9 K9; refine wp_region_lit ?_
      refine xmv rfl ?_
      refine xsbi rfl rfl (wi64 (by omega)) ?_
      refine xmv rfl ?_; refine xmv rfl ?_
      refine xmli rfl rfl (wi64 (by omega)) ?_
      refine xsr_u64 rfl rfl (by omega) ?_
      refine xcv_u8 rfl ?_
      rw [show ((n >>> 56 : Nat) : Int) = ((n >>> 56 % 256 : Nat) : Int) by omega]
      refine xaa (j := 0) rfl rfl rfl (by decide) ?_
      (refine xst 0 H rfl rfl rfl rfl rfl ?_; intro w H)
      refine wpList_nil ?_; refine bn ?_; refine tn ?_; refine hK8 _ _ ?_; clear hK8 K8; refine wp_region_lit ?_
      refine xadi rfl rfl (wi64 (by omega)) ?_
      refine xmv rfl ?_; refine wpList_nil ?_
      refine tn ?_; refine hK5 _ _ (8) (nameC n 8) ⟨rfl, rfl, rfl, True.intro⟩ ?_ H ?_
      exact ⟨by decide, rfl⟩
      decide
  · have h : k = 8 := by simp at h; omega
    subst h
    rw [nameC8] at H
    refine wp_exit ?_; refine te ?_; clear hK7 K7; refine te ?_; clear hK5 K5; refine be ?_; refine tn ?_; refine hK3 _ _ ?_; clear hK3 K3
    refine sq ?_; intro K8 hK8; refine wp_region_lit ?_
    refine xsla rfl ?_
    refine xc [0] H (((c_hex _ (some ⟨b3, 0, none⟩) 8 (be8 n) ⟨rfl, fun j v hv => by rw [Nat.zero_add]; exact blk_cell (by rw [nthV_eq]; exact hv)⟩ (by rw [be8_len]; decide)).args (by rw [be8_len]))) rfl rfl rfl rfl rfl ?_; rintro _ _ w ⟨rfl, rfl⟩ H; replace H := H.ap rfl
    have hne : be8 n ≠ [] := by intro e; have := be8_len n; rw [e] at this; simp at this
    have hx : hexOf (be8 n) = hexs (be8 n) := by unfold hexOf; rw [if_neg hne]
    have hxl : (hexs (be8 n)).length = 16 := by rw [hexs_len, be8_len]
    rw [hx]
    refine xscat rfl rfl (by (simp; omega)) ?_; refine xas rfl ?_; refine wpList_nil ?_
    refine tn ?_; refine hK8 _ _ ?_; clear hK8 K8; refine wp_ret ?_
    replace H := H.keeps [] rfl
    refine hQ _ _ _ ?_; refine r1 rfl rfl H ?_
    exact ⟨rfl, rfl⟩
end Go.Proofs.YtegllbmkkfnajaaGreatDoor
end
section
namespace Go.Proofs.YtegllbmkkfnajaaGreatDoor
open Go Go.Proofs
attribute [local irreducible] Go.wpList Go.Code.wp St Fn mk
set_option maxRecDepth 20000
structure Lease where
  id : Nat
  size : Nat
deriving DecidableEq
structure Stmt where
  tenant : List UInt8
  period : Nat
  used : Nat
  cap : Nat
  bits : Nat
  due : Nat
deriving DecidableEq
structure Acct where
  tenant : List UInt8
  cap : Nat
  used : Nat
  bits : Nat
  period : Nat
  leases : List Lease
  closed : List Stmt
deriving DecidableEq
def leaseV (l : Lease) : List Value := [.int .u64 l.id, .int .u64 l.size]
def stmtV (s : Stmt) : List Value := [.string (str s.tenant), .int .u64 s.period, .int .u64 s.used, .int .u64 s.cap, .int .u64 s.bits, .int .u64 s.due]
def acctV (a : Acct) (lo : Option Addr) (lc : Nat) (co : Option Addr) (cc : Nat) : List Value :=
  [.string (str a.tenant), .int .u64 a.cap, .int .u64 a.used, .int .u64 a.bits, .int .u64 a.period, .slice lo a.leases.length lc, .slice co a.closed.length cc]
abbrev leasesV (l : List Lease) : List Value := l.flatMap leaseV
abbrev closedV (l : List Stmt) : List Value := l.flatMap stmtV
def Lease.ok (l : Lease) : Prop := l.id < 18446744073709551616 ∧ l.size < 18446744073709551616
def Stmt.ok (s : Stmt) : Prop := s.period < 18446744073709551616 ∧ s.used < 18446744073709551616 ∧ s.cap < 18446744073709551616 ∧ s.bits < 18446744073709551616 ∧ s.due < 18446744073709551616
structure Acct.ok (a : Acct) : Prop where
  cap : a.cap < 18446744073709551616
  used : a.used < 18446744073709551616
  bits : a.bits < 18446744073709551616
  period : a.period < 18446744073709551616
  leases : ∀ l ∈ a.leases, l.ok
  closed : ∀ s ∈ a.closed, s.ok
  nl : a.leases.length ≤ 1099511627776
  nc : a.closed.length ≤ 1099511627776
structure AcctR (A : Asn) (a : Acct) (lo : Option Addr) (lc : Nat) (co : Option Addr) (cc : Nat) : Prop where
  l : Rd A lo (leasesV a.leases)
  c : Rd A co (closedV a.closed)
  ll : a.leases.length ≤ lc
  cl : a.closed.length ≤ cc
theorem AcctR.sees {A B : Asn} {a : Acct} {lo co : Option Addr} {lc cc : Nat} (h : AcctR A a lo lc co cc) (hs : Sees B A) : AcctR B a lo lc co cc := ⟨h.l.sees hs, h.c.sees hs, h.ll, h.cl⟩
abbrev acctT : Nat := 42
abbrev leaseT : Nat := 63
abbrev stmtT : Nat := 65
theorem leaseV_len (l : Lease) : (leaseV l).length = 2 := rfl
theorem stmtV_len (s : Stmt) : (stmtV s).length = 6 := rfl
def outF (n : Nat) (l : Lease) : Nat := padd n l.size
def outA (a : Acct) : Nat := a.leases.foldl outF 0
def useA (a : Acct) : Nat := padd a.used (outA a)
def roomA (a : Acct) : Nat := if a.cap < useA a then 0 else a.cap - useA a
theorem outFold_lt : ∀ (l : List Lease) (n : Nat), (∀ x ∈ l, x.ok) → n < 18446744073709551616 → l.foldl outF n < 18446744073709551616
  | [], _, _, h => h
  | x :: l, n, hl, h => outFold_lt l _ (fun y hy => hl y (by simp [hy])) (padd_lt h (hl x (by simp)).2)
theorem outA_lt {a : Acct} (h : a.ok) : outA a < 18446744073709551616 := outFold_lt _ _ h.leases (by decide)
theorem c_out (A : Asn) (a : Acct) (lo : Option Addr) (lc : Nat) (co : Option Addr) (cc : Nat) (ha : a.ok) (hr : AcctR A a lo lc co cc) :
    Fn Tryz.prog 174 [.agg (acctV a lo lc co cc).toArray] [A] (Ret fun v L => v = .int .u64 (outA a : Nat) ∧ L = [A]) := by
  unfold outA
  have hnl := ha.nl
  refine Fn.intro Tryz.call174 Tryz.func174 rfl Tryz.ntmps174 rfl ?_; intro g w Q hQ H
  refine sq ?_; intro K1 hK1; refine wp_region_lit ?_; refine xbx H rfl rfl ?_; intro b1 w H; refine xas rfl ?_; refine wpList_nil ?_
  refine tn ?_; refine hK1 _ _ ?_; clear hK1 K1; refine sq ?_; intro K2 hK2; refine wp_region_lit ?_; refine xas rfl ?_; refine wpList_nil ?_
  refine tn ?_; refine hK2 _ _ ?_; clear hK2 K2; refine sq ?_; intro K3 hK3; refine sq ?_; intro K4 hK4; refine wp_region_lit ?_; refine xfa rfl ?_
  refine xldb 0 H rfl rfl rfl ?_
  refine xli rfl ?_; refine xmv rfl ?_; refine wpList_nil ?_; refine tn ?_; refine hK4 _ _ ?_; clear hK4 K4; refine wp_block ?_
  replace H := H.keeps [1] rfl
  refine lp2 (α := Nat) (β := Nat) (fun k n => [(3, .int .u64 n), (7, .slice lo a.leases.length lc), (8, .int .i64 a.leases.length), (9, .int .i64 k)]) (fun k n => [A]) (fun k n => k ≤ a.leases.length ∧ n < 18446744073709551616 ∧ a.leases.foldl outF 0 = (a.leases.drop k).foldl outF n) (fun k n => a.leases.length - k) (0) (0) ⟨rfl, rfl, rfl, rfl, True.intro⟩ (⟨Nat.zero_le _, by decide, rfl⟩) H ?_; intro k n ρ w hI H K5 hK5
  obtain ⟨hk, hn, hf⟩ := hI
  refine sq ?_; intro K6 hK6; refine wp_region_lit ?_; refine xlt rfl rfl ?_; refine wpList_nil ?_; refine tn ?_; refine hK6 _ _ ?_; clear hK6 K6
  refine sq ?_; intro K7 hK7
  refine if_ rfl (fun h1 => ?_) (fun h1 => ?_)
  · have h1 : k < a.leases.length := by simp at h1; omega
    have hg : a.leases[k]? = some a.leases[k] := List.getElem?_eq_getElem h1
    have hdr : a.leases.drop k = a.leases[k] :: a.leases.drop (k + 1) := List.drop_eq_getElem_cons h1
    have hok := ha.leases _ (List.getElem_mem h1)
    rw [hdr, List.foldl_cons] at hf
    generalize a.leases[k] = x at hg hf hok
    have hp := padd_lt hn hok.2
    refine wp_skip ?_; refine tn ?_; refine hK7 _ _ ?_; clear hK7 K7; refine sq ?_; intro K8 hK8; refine wp_block ?_; refine sq ?_; intro K9 hK9
    refine wp_region_lit ?_
    refine xiar hr.l (flat_get leaseV_len hg) (by simp [leaseV]) h1 rfl rfl rfl ?_; intro b11 o11 hx11
    refine xlda 0 H rfl rfl hx11 rfl ?_
    refine xal H ?_; intro b5 w H
    (refine xsta 0 H rfl rfl rfl rfl rfl rfl ?_; intro w H)
    refine wpList_nil ?_; refine tn ?_; refine hK9 _ _ ?_; clear hK9 K9; refine wp_region_lit ?_; refine xmv rfl ?_; refine xfa rfl ?_
    refine xldb 0 H rfl rfl rfl ?_
    refine xc [] H ((c_padd n x.size hn hok.2)) rfl rfl rfl rfl rfl ?_; rintro _ _ w ⟨rfl, rfl⟩ H; replace H := H.ap rfl
    refine xas rfl ?_; refine wpList_nil ?_; refine bn ?_; refine tn ?_; refine hK8 _ _ ?_; clear hK8 K8; refine wp_region_lit ?_
    refine xadi rfl rfl (wi64 (by omega)) ?_
    refine xmv rfl ?_; refine wpList_nil ?_
    replace H := H.keeps [1] rfl
    refine tn ?_; refine hK5 _ _ (k + 1) (padd n x.size) ⟨rfl, rfl, rfl, rfl, True.intro⟩ ?_ H ?_
    exact ⟨h1, hp, hf⟩
    omega
  · have h1 : k = a.leases.length := by simp at h1; omega
    refine wp_exit ?_; refine te ?_; clear hK7 K7; refine te ?_; clear hK5 K5; refine be ?_; refine tn ?_; refine hK3 _ _ ?_; clear hK3 K3
    refine sq ?_; intro K8 hK8; refine wp_region_lit ?_; refine xmv rfl ?_; refine xas rfl ?_; refine wpList_nil ?_; refine tn ?_; refine hK8 _ _ ?_; clear hK8 K8
    refine wp_ret ?_
    refine hQ _ _ _ ?_; refine r1 rfl rfl H ?_
    rw [hf, h1, List.drop_length]; exact ⟨rfl, rfl⟩
end Go.Proofs.YtegllbmkkfnajaaGreatDoor
end
section
namespace Go.Proofs.YtegllbmkkfnajaaGreatDoor
open Go Go.Proofs
attribute [local irreducible] Go.wpList Go.Code.wp St Fn mk
set_option maxRecDepth 20000
theorem c_use (A : Asn) (a : Acct) (lo : Option Addr) (lc : Nat) (co : Option Addr) (cc : Nat) (ha : a.ok) (hr : AcctR A a lo lc co cc) :
    Fn Tryz.prog 145 [.agg (acctV a lo lc co cc).toArray] [A] (Ret fun v L => v = .int .u64 (useA a : Nat) ∧ L = [A]) := by
  unfold useA
  refine Fn.intro Tryz.call145 Tryz.func145 rfl Tryz.ntmps145 rfl ?_; intro g w Q hQ H
  refine sq ?_; intro K1 hK1; refine wp_region_lit ?_; refine xbx H rfl rfl ?_; intro b1 w H; refine xas rfl ?_; refine wpList_nil ?_
  refine tn ?_; refine hK1 _ _ ?_; clear hK1 K1; refine sq ?_; intro K2 hK2
  refine drws (m := 6) 100000 rfl rfl H ?_; clear H; intro w H; refine dt' 0 rfl (by kernel_rfl) H (yfa rfl) ?_
  refine dt 1 rfl (by kernel_rfl) H (zldb 0 rfl rfl rfl) ?_
  refine dt 2 rfl (by kernel_rfl) H (zldab 0 rfl rfl rfl rfl) ?_
  refine do1 3 rfl (by kernel_rfl) ?_; intro K3 hK3
  refine xc [1] H ((c_out A a lo lc co cc ha hr)) rfl rfl rfl rfl rfl ?_; rintro _ _ w ⟨rfl, rfl⟩ H; replace H := H.ap rfl
  refine wpList_nil ?_; refine tn ?_; refine hK3 _ _ (fun _ => (H.perm (.swap _ _ _))) ?_; clear hK3 K3; refine do1 4 rfl (by kernel_rfl) ?_; intro K4 hK4
  refine xc [] H ((c_padd a.used (outA a) ha.used (outA_lt ha))) rfl rfl rfl rfl rfl ?_; rintro _ _ w ⟨rfl, rfl⟩ H; replace H := H.ap rfl
  refine wpList_nil ?_; refine tn ?_; refine hK4 _ _ (fun _ => (H.perm (.swap _ _ _))) ?_; clear hK4 K4
  refine dt' 5 rfl (by kernel_rfl) (H.perm (.swap _ _ _)) (yas rfl) ?_; refine dd (by kernel_rfl) ?_; refine tn ?_; refine hK2 _ _ ?_; clear hK2 K2
  refine wp_ret ?_
  replace H := H.keeps [0] rfl
  refine hQ _ _ _ ?_; refine r1 rfl rfl H ?_
  exact ⟨rfl, rfl⟩
theorem c_room (A : Asn) (a : Acct) (lo : Option Addr) (lc : Nat) (co : Option Addr) (cc : Nat) (ha : a.ok) (hr : AcctR A a lo lc co cc) :
    Fn Tryz.prog 111 [.agg (acctV a lo lc co cc).toArray] [A] (Ret fun v L => v = .int .u64 (roomA a : Nat) ∧ L = [A]) := by
  unfold roomA
  have hcap := ha.cap
  refine Fn.intro Tryz.call111 Tryz.func111 rfl Tryz.ntmps111 rfl ?_; intro g w Q hQ H
  refine sq ?_; intro K1 hK1; refine wp_region_lit ?_; refine xbx H rfl rfl ?_; intro b1 w H; refine xas rfl ?_; refine wpList_nil ?_
  refine tn ?_; refine hK1 _ _ ?_; clear hK1 K1; refine sq ?_; intro K2 hK2; refine wp_region_lit ?_
  refine xldab 0 H rfl rfl rfl rfl ?_
  refine xc [1] H ((c_use A a lo lc co cc ha hr)) rfl rfl rfl rfl rfl ?_; rintro _ _ w ⟨rfl, rfl⟩ H; replace H := H.ap rfl
  refine xas rfl ?_; refine wpList_nil ?_; refine tn ?_; refine hK2 _ _ ?_; clear hK2 K2; refine sq ?_; intro K3 hK3; refine sq ?_; intro K4 hK4
  refine wp_region_lit ?_; refine xmv rfl ?_; refine xfa rfl ?_
  refine xldb 1 H rfl rfl rfl ?_
  refine xgt rfl rfl ?_; refine wpList_nil ?_; refine tn ?_; refine hK4 _ _ ?_; clear hK4 K4
  refine if_ rfl (fun h => ?_) (fun h => ?_)
  · have h : a.cap < useA a := by have := of_decide_eq_true h; omega
    refine sq ?_; intro K5 hK5; refine wp_region_lit ?_; refine xas rfl ?_; refine wpList_nil ?_; refine tn ?_; refine hK5 _ _ ?_; clear hK5 K5; refine wp_ret ?_
    refine tr ?_; clear hK3 K3
    replace H := H.keeps [0] rfl
    refine hQ _ _ _ ?_; refine r1 rfl rfl H ?_
    rw [if_pos h]; exact ⟨rfl, rfl⟩
  · have h : ¬ a.cap < useA a := by have := of_decide_eq_false h; omega
    refine wp_skip ?_; refine tn ?_; refine hK3 _ _ ?_; clear hK3 K3; refine sq ?_; intro K5 hK5; refine wp_region_lit ?_; refine xfa rfl ?_
    refine xldb 1 H rfl rfl rfl ?_
    refine xmv rfl ?_
    refine xsbn_u64 rfl rfl (by omega) (by omega) ?_
    refine xas rfl ?_; refine wpList_nil ?_; refine tn ?_; refine hK5 _ _ ?_; clear hK5 K5; refine wp_ret ?_
    replace H := H.keeps [0] rfl
    refine hQ _ _ _ ?_; refine r1 rfl rfl H ?_
    rw [if_neg h]; exact ⟨rfl, rfl⟩
def findL (p : Lease → Bool) : List Lease → Option Nat
  | [] => none
  | l :: r => if p l = true then some 0 else match findL p r with | some k => some (k + 1) | none => none
def findI (p : Lease → Bool) (l : List Lease) : Int := match findL p l with | some k => (k : Int) | none => -1
theorem findL_drop (p : Lease → Bool) : ∀ (l : List Lease) (k : Nat), (∀ j x, j < k → l[j]? = some x → p x = false) → k ≤ l.length → findL p l = match findL p (l.drop k) with | some j => some (j + k) | none => none
  | l, 0, _, _ => by
    rw [List.drop_zero]
    cases findL p l <;> rfl
  | [], k + 1, _, h => by simp at h
  | x :: l, k + 1, hf, h => by
    have h0 := hf 0 x (by omega) rfl
    have ih := findL_drop p l k (fun j y hj hy => hf (j + 1) y (by omega) (by simpa using hy)) (by simpa using h)
    simp only [findL, h0, List.drop_succ_cons, ih]
    cases findL p (l.drop k) <;> simp
    omega
theorem c_indexf (A : Asn) (B : List Asn) (p : Lease → Bool) (f : Nat) (cap : List Value) (l : List Lease) (lo : Option Addr) (lc : Nat) (hl : l.length ≤ 1099511627776) (hr : Rd A lo (leasesV l))
    (hp : ∀ x ∈ l, Fn Tryz.prog f (.agg (leaseV x).toArray :: cap) (A :: B) (Ret fun v L => v = .bool (p x) ∧ L = A :: B)) :
    Fn Tryz.prog 144 [.slice lo l.length lc, .func (.func f) #[] cap.toArray] (A :: B) (Ret fun v L => v = .int .i64 (findI p l) ∧ L = A :: B) := by
  refine Fn.intro Tryz.call144 Tryz.func144 rfl Tryz.ntmps144 rfl ?_; intro g w Q hQ H
  refine sq ?_; intro K1 hK1; refine wp_region_lit ?_; refine xas rfl ?_; refine wpList_nil ?_; refine tn ?_; refine hK1 _ _ ?_; clear hK1 K1
  refine sq ?_; intro K2 hK2; refine sq ?_; intro K3 hK3; refine wp_region_lit ?_; refine xmv rfl ?_; refine xli rfl ?_; refine xmv rfl ?_; refine wpList_nil ?_
  refine tn ?_; refine hK3 _ _ ?_; clear hK3 K3; refine wp_block ?_
  refine lp (α := Nat) (fun k => [(0, .slice lo l.length lc), (1, .func (.func f) #[] cap.toArray), (7, .int .i64 l.length), (8, .int .i64 k)]) (fun k => A :: B) (fun k => k ≤ l.length ∧ ∀ j x, j < k → l[j]? = some x → p x = false) (fun k => l.length - k) (0) ⟨rfl, rfl, rfl, rfl, True.intro⟩ (⟨Nat.zero_le _, fun j x h => absurd h (Nat.not_lt_zero _)⟩) H ?_; intro k ρ w hI H K4 hK4
  obtain ⟨hk, hno⟩ := hI
  have hfd := findL_drop p l k hno hk
  refine sq ?_; intro K5 hK5; refine wp_region_lit ?_; refine xlt rfl rfl ?_; refine wpList_nil ?_; refine tn ?_; refine hK5 _ _ ?_; clear hK5 K5
  refine sq ?_; intro K6 hK6
  refine if_ rfl (fun h1 => ?_) (fun h1 => ?_)
  · have h1 : k < l.length := by simp at h1; omega
    have hg : l[k]? = some l[k] := List.getElem?_eq_getElem h1
    have hdr : l.drop k = l[k] :: l.drop (k + 1) := List.drop_eq_getElem_cons h1
    have hc := hp _ (List.getElem_mem h1)
    rw [hdr] at hfd
    generalize l[k] = x at hg hfd hc
    refine wp_skip ?_; refine tn ?_; refine hK6 _ _ ?_; clear hK6 K6; refine sq ?_; intro K7 hK7; refine wp_block ?_; refine sq ?_; intro K8 hK8
    refine wp_region_lit ?_; refine xmv rfl ?_; refine xas rfl ?_; refine wpList_nil ?_; refine tn ?_; refine hK8 _ _ ?_; clear hK8 K8; refine sq ?_; intro K9 hK9
    refine wp_region_lit ?_; refine xmv rfl ?_; refine xmv rfl ?_; refine xmv rfl ?_
    refine xiar hr (flat_get leaseV_len hg) (by simp [leaseV]) h1 rfl rfl rfl ?_; intro b14 o14 hx14
    refine xlda 0 H rfl rfl hx14 rfl ?_
    refine xcw H (hc) rfl rfl rfl rfl ?_; rintro _ _ w ⟨rfl, rfl⟩ H
    refine wpList_nil ?_; refine tn ?_; refine hK9 _ _ ?_; clear hK9 K9
    refine if_ rfl (fun h2 => ?_) (fun h2 => ?_)
    · refine sq ?_; intro K10 hK10; refine wp_region_lit ?_; refine xmv rfl ?_; refine xas rfl ?_; refine wpList_nil ?_
      refine tn ?_; refine hK10 _ _ ?_; clear hK10 K10; refine wp_ret ?_; refine br ?_; refine tr ?_; clear hK7 K7; refine tr ?_; clear hK4 K4; refine br ?_
      refine tr ?_; clear hK2 K2
      refine hQ _ _ _ ?_; refine r1 rfl rfl H ?_
      refine ⟨?_, rfl⟩
      unfold findI; rw [hfd]; simp [findL, h2]
    · refine wp_skip ?_; refine bn ?_; refine tn ?_; refine hK7 _ _ ?_; clear hK7 K7; refine wp_region_lit ?_
      refine xadi rfl rfl (wi64 (by omega)) ?_
      refine xmv rfl ?_; refine wpList_nil ?_
      refine tn ?_; refine hK4 _ _ (k + 1) ⟨rfl, rfl, rfl, rfl, True.intro⟩ ?_ H ?_
      refine ⟨h1, fun j y hj hy => ?_⟩
      rcases Nat.lt_or_ge j k with h | h
      · exact hno j y h hy
      · have : j = k := by omega
        subst this; rw [hg] at hy; cases hy; exact h2
      omega
  · have h1 : k = l.length := by simp at h1; omega
    refine wp_exit ?_; refine te ?_; clear hK6 K6; refine te ?_; clear hK4 K4; refine be ?_; refine tn ?_; refine hK2 _ _ ?_; clear hK2 K2
    refine sq ?_; intro K7 hK7; refine wp_region_lit ?_; refine xas rfl ?_; refine wpList_nil ?_; refine tn ?_; refine hK7 _ _ ?_; clear hK7 K7; refine wp_ret ?_
    refine hQ _ _ _ ?_; refine r1 rfl rfl H ?_
    refine ⟨?_, rfl⟩
    unfold findI; rw [hfd, h1, List.drop_length]; rfl
end Go.Proofs.YtegllbmkkfnajaaGreatDoor
end
section
namespace Go.Proofs.YtegllbmkkfnajaaGreatDoor
open Go Go.Proofs
attribute [local irreducible] Go.wpList Go.Code.wp St Fn mk
set_option maxRecDepth 20000
theorem c_find (A : Asn) (B : List Asn) (p : Lease → Bool) (f : Nat) (cap : List Value) (l : List Lease) (lo : Option Addr) (lc : Nat) (hl : l.length ≤ 1099511627776) (hr : Rd A lo (leasesV l))
    (hp : ∀ x ∈ l, Fn Tryz.prog f (.agg (leaseV x).toArray :: cap) (A :: B) (Ret fun v L => v = .bool (p x) ∧ L = A :: B)) :
    Fn Tryz.prog 109 [.slice lo l.length lc, .func (.func f) #[] cap.toArray] (A :: B) (Ret fun v L => v = .int .i64 (findI p l) ∧ L = A :: B) := by
  refine Fn.intro Tryz.call109 Tryz.func109 rfl Tryz.ntmps109 rfl ?_; intro g w Q hQ H
  refine sq ?_; intro K1 hK1; refine wp_region_lit ?_; refine xas rfl ?_; refine wpList_nil ?_; refine tn ?_; refine hK1 _ _ ?_; clear hK1 K1
  refine sq ?_; intro K2 hK2; refine wp_region_lit ?_; refine xmv rfl ?_; refine xmv rfl ?_
  refine xcw H ((c_indexf A B p f cap l lo lc hl hr hp)) rfl rfl rfl rfl ?_; rintro _ _ w ⟨rfl, rfl⟩ H
  refine xas rfl ?_; refine wpList_nil ?_; refine tn ?_; refine hK2 _ _ ?_; clear hK2 K2; refine wp_ret ?_
  refine hQ _ _ _ ?_; refine r1 rfl rfl H ?_
  exact ⟨rfl, rfl⟩
def isId (n : Nat) (l : Lease) : Bool := ((l.id : Int) == (n : Int))
def fromId (n : Nat) (l : Lease) : Bool := decide ((l.id : Int) ≥ (n : Int))
theorem c_numb1 (A : Asn) (b n : Nat) (x : Lease) : Fn Tryz.prog 146 [.agg (leaseV x).toArray, .pointer (some ⟨b, 0, none⟩)] [A, blk b [.int .u64 n] 22] (Ret fun v L => v = .bool (isId n x) ∧ L = [A, blk b [.int .u64 n] 22]) := by
  refine Fn.intro Tryz.call146 Tryz.func146 rfl Tryz.ntmps146 rfl ?_; intro g w Q hQ H
  refine sq ?_; intro K1 hK1; refine wp_region_lit ?_; refine xbx H rfl rfl ?_; intro b2 w H; refine xas rfl ?_; refine wpList_nil ?_
  refine tn ?_; refine hK1 _ _ ?_; clear hK1 K1; refine sq ?_; intro K2 hK2; refine wp_region_lit ?_; refine xfa rfl ?_
  refine xldb 0 H rfl rfl rfl ?_
  refine xldb 2 H rfl rfl rfl ?_
  refine xeq rfl rfl ?_; refine xas rfl ?_; refine wpList_nil ?_; refine tn ?_; refine hK2 _ _ ?_; clear hK2 K2; refine wp_ret ?_
  replace H := H.keeps [1, 1] rfl
  refine hQ _ _ _ ?_; refine r1 rfl rfl H ?_
  exact ⟨rfl, rfl⟩
theorem c_numb (n : Nat) : Fn Tryz.prog 112 [.int .u64 n] [] (Ret fun v L => ∃ b, v = .func (.func 146) #[] #[.pointer (some ⟨b, 0, none⟩)] ∧ L = [blk b [.int .u64 n] 22]) := by
  refine Fn.intro Tryz.call112 Tryz.func112 rfl Tryz.ntmps112 rfl ?_; intro g w Q hQ H
  refine sq ?_; intro K1 hK1; refine wp_region_lit ?_; refine xbx H rfl rfl ?_; intro b1 w H; refine xas rfl ?_; refine wpList_nil ?_
  refine tn ?_; refine hK1 _ _ ?_; clear hK1 K1; refine sq ?_; intro K2 hK2; refine wp_region_lit ?_; refine xmf rfl rfl ?_; refine xas rfl ?_
  refine wpList_nil ?_; refine tn ?_; refine hK2 _ _ ?_; clear hK2 K2; refine wp_ret ?_
  refine hQ _ _ _ ?_; refine r1 rfl rfl H ?_
  exact ⟨b1, rfl, rfl⟩
theorem c_chk1 (A : Asn) (b : Nat) (r : Rec) (x : Lease) : Fn Tryz.prog 110 [.agg (leaseV x).toArray, .pointer (some ⟨b, 0, none⟩)] [A, blk b (recV r) recT] (Ret fun v L => v = .bool (fromId r.lease x) ∧ L = [A, blk b (recV r) recT]) := by
  refine Fn.intro Tryz.call110 Tryz.func110 rfl Tryz.ntmps110 rfl ?_; intro g w Q hQ H
  refine sq ?_; intro K1 hK1; refine wp_region_lit ?_; refine xbx H rfl rfl ?_; intro b2 w H; refine xas rfl ?_; refine wpList_nil ?_
  refine tn ?_; refine hK1 _ _ ?_; clear hK1 K1; refine sq ?_; intro K2 hK2; refine wp_region_lit ?_; refine xfa rfl ?_
  refine xldb 0 H rfl rfl rfl ?_
  refine xfa rfl ?_
  refine xldb 2 H rfl rfl rfl ?_
  refine xge rfl rfl ?_; refine xas rfl ?_; refine wpList_nil ?_; refine tn ?_; refine hK2 _ _ ?_; clear hK2 K2; refine wp_ret ?_
  replace H := H.keeps [1, 1] rfl
  refine hQ _ _ _ ?_; refine r1 rfl rfl H ?_
  exact ⟨rfl, rfl⟩
def sizeAt (l : List Lease) (i : Int) : Nat := match l[i.toNat]? with | some x => x.size | none => 0
def acctCheck (a : Acct) (r : Rec) : Int :=
  if recCheck r ≠ 0 then recCheck r
  else if r.tenant ≠ a.tenant then 7
  else if r.kind = 3 then (if 0 ≤ findI (fromId r.lease) a.leases then 9 else if roomA a < r.n then 11 else 0)
  else if r.kind = 4 then (if findI (isId r.lease) a.leases < 0 then 8 else if sizeAt a.leases (findI (isId r.lease) a.leases) < r.n then 6 else 0)
  else if r.kind = 5 then (if 0 < a.leases.length then 12 else if 65536 ≤ a.period then 3 else 0)
  else 0
theorem findL_lt {p : Lease → Bool} : ∀ {l : List Lease} {k : Nat}, findL p l = some k → k < l.length
  | [], k, h => by simp [findL] at h
  | x :: l, k, h => by
    simp only [findL] at h
    split at h
    · cases h; simp
    · split at h
      · rename_i j hj
        cases h; have := findL_lt hj; simp; omega
      · cases h
theorem findI_lt {p : Lease → Bool} {l : List Lease} (h : ¬ findI p l < 0) : ∃ k : Nat, findI p l = k ∧ k < l.length := by
  unfold findI at h ⊢
  cases hf : findL p l with
  | none => rw [hf] at h; simp at h
  | some k => exact ⟨k, rfl, findL_lt hf⟩
theorem c_acheck (A : Asn) (a : Acct) (lo : Option Addr) (lc : Nat) (co : Option Addr) (cc : Nat) (r : Rec) (ha : a.ok) (hrk : r.ok) (hr : AcctR A a lo lc co cc) :
    Fn Tryz.prog 78 [.agg (acctV a lo lc co cc).toArray, .agg (recV r).toArray] [A] (Ret fun v L => v = .int .i64 (acctCheck a r) ∧ L = [A]) := by
  unfold acctCheck
  refine Fn.intro Tryz.call78 Tryz.func78 rfl Tryz.ntmps78 rfl ?_; intro g w Q hQ H
  refine sq ?_; intro K1 hK1; refine wp_region_lit ?_; refine xbx H rfl rfl ?_; intro b2 w H; refine xbx H rfl rfl ?_; intro b3 w H; refine xas rfl ?_
  refine wpList_nil ?_; refine tn ?_; refine hK1 _ _ ?_; clear hK1 K1; refine sq ?_; intro K2 hK2; refine sq ?_; intro K3 hK3; refine wp_region_lit ?_
  refine xldab 0 H rfl rfl rfl rfl ?_
  refine xc [] H ((c_rcheck r hrk)) rfl rfl rfl rfl rfl ?_; rintro _ _ w ⟨rfl, rfl⟩ H; replace H := H.ap rfl
  refine xas rfl ?_; refine wpList_nil ?_; refine tn ?_; refine hK3 _ _ ?_; clear hK3 K3; refine sq ?_; intro K4 hK4; refine wp_region_lit ?_; refine xmv rfl ?_
  refine xne rfl rfl ?_; refine wpList_nil ?_; refine tn ?_; refine hK4 _ _ ?_; clear hK4 K4
  refine if_ rfl (fun h1 => ?_) (fun h1 => ?_)
  · have h1 : recCheck r ≠ 0 := by simpa using h1
    refine sq ?_; intro K5 hK5; refine wp_region_lit ?_; refine xmv rfl ?_; refine xas rfl ?_; refine wpList_nil ?_; refine tn ?_; refine hK5 _ _ ?_; clear hK5 K5
    refine wp_ret ?_; refine tr ?_; clear hK2 K2
    replace H := H.keeps [2] rfl
    refine hQ _ _ _ ?_; refine r1 rfl rfl H ?_
    rw [if_pos h1]; exact ⟨rfl, rfl⟩
  · have h1 : ¬ recCheck r ≠ 0 := by simpa using h1
    refine wp_skip ?_; refine tn ?_; refine hK2 _ _ ?_; clear hK2 K2; refine sq ?_; intro K5 hK5; refine sq ?_; intro K6 hK6; refine wp_region_lit ?_
    refine xfa rfl ?_
    refine xldb 0 H rfl rfl rfl ?_
    refine xfa rfl ?_
    refine xldb 1 H rfl rfl rfl ?_
    refine xsneS rfl rfl ?_
    refine wpList_nil ?_; refine tn ?_; refine hK6 _ _ ?_; clear hK6 K6
    refine if_ rfl (fun h2 => ?_) (fun h2 => ?_)
    · have h2 : r.tenant ≠ a.tenant := by simpa using h2
      refine sq ?_; intro K7 hK7; refine wp_region_lit ?_; refine xas rfl ?_; refine wpList_nil ?_; refine tn ?_; refine hK7 _ _ ?_; clear hK7 K7; refine wp_ret ?_
      refine tr ?_; clear hK5 K5
      replace H := H.keeps [2] rfl
      refine hQ _ _ _ ?_; refine r1 rfl rfl H ?_
      rw [if_neg h1, if_pos h2]; exact ⟨rfl, rfl⟩
    · have h2 : ¬ r.tenant ≠ a.tenant := by simpa using h2
      refine wp_skip ?_; refine tn ?_; refine hK5 _ _ ?_; clear hK5 K5; refine sq ?_; intro K7 hK7; refine sq ?_; intro K8 hK8; refine wp_region_lit ?_
      refine xfa rfl ?_
      refine xldb 0 H rfl rfl rfl ?_
      refine wpList_nil ?_; refine tn ?_; refine hK8 _ _ ?_; clear hK8 K8; refine wp_block ?_; refine sq ?_; intro K9 hK9; refine wp_region_lit ?_
      refine xeq rfl rfl ?_; refine xas rfl ?_; refine wpList_nil ?_; refine tn ?_; refine hK9 _ _ ?_; clear hK9 K9
      refine if_ rfl (fun h3 => ?_) (fun h3 => ?_)
      · have h3 : r.kind = 3 := by simpa using h3
        refine sq ?_; intro K10 hK10; refine sq ?_; intro K11 hK11; refine wp_region_lit ?_; refine xfa rfl ?_
        refine xldb 1 H rfl rfl rfl ?_
        refine xmf rfl rfl ?_
        replace H := H.keeps [2, 0, 0] rfl
        refine xcw H ((c_find A [blk b3 (recV r) recT, blk b2 (acctV a lo lc co cc) acctT] (fromId r.lease) 110 [.pointer (some ⟨b3, 0, none⟩)] a.leases lo lc ha.nl hr.l (fun x _ => (c_chk1 A b3 r x).frame [blk b2 (acctV a lo lc co cc) acctT]))) rfl rfl rfl rfl ?_; rintro _ _ w ⟨rfl, rfl⟩ H
        refine xge rfl rfl ?_; refine wpList_nil ?_; refine tn ?_; refine hK11 _ _ ?_; clear hK11 K11
        refine if_ rfl (fun h4 => ?_) (fun h4 => ?_)
        · have h4 : 0 ≤ findI (fromId r.lease) a.leases := by simpa using h4
          refine sq ?_; intro K12 hK12; refine wp_region_lit ?_; refine xas rfl ?_; refine wpList_nil ?_; refine tn ?_; refine hK12 _ _ ?_; clear hK12 K12
          refine wp_ret ?_; refine tr ?_; clear hK10 K10; refine br ?_; refine tr ?_; clear hK7 K7
          replace H := H.keeps [0] rfl
          refine hQ _ _ _ ?_; refine r1 rfl rfl H ?_
          rw [if_neg h1, if_neg h2, if_pos h3, if_pos h4]; exact ⟨rfl, rfl⟩
        · have h4 : ¬ 0 ≤ findI (fromId r.lease) a.leases := by simpa using h4
          refine wp_skip ?_; refine tn ?_; refine hK10 _ _ ?_; clear hK10 K10; refine sq ?_; intro K12 hK12
          refine drws (m := 5) 100000 rfl rfl H ?_; clear H; intro w H; refine dt' 0 rfl (by kernel_rfl) H (yfa rfl) ?_
          refine dt 1 rfl (by kernel_rfl) H (zldb 1 rfl rfl rfl) ?_
          refine dt 2 rfl (by kernel_rfl) H (zldab 2 rfl rfl rfl rfl) ?_
          refine do1 3 rfl (by kernel_rfl) ?_; intro K13 hK13
          refine xc [0] H ((c_room A a lo lc co cc ha hr)) rfl rfl rfl rfl rfl ?_; rintro _ _ w ⟨rfl, rfl⟩ H; replace H := H.ap rfl
          refine wpList_nil ?_; refine tn ?_; refine hK13 _ _ (fun _ => H) ?_; clear hK13 K13; refine dt' 4 rfl (by kernel_rfl) H (ygt rfl rfl) ?_
          refine dd (by kernel_rfl) ?_; refine tn ?_; refine hK12 _ _ ?_; clear hK12 K12
          refine if_ rfl (fun h5 => ?_) (fun h5 => ?_)
          · have h5 : roomA a < r.n := by have := of_decide_eq_true h5; omega
            refine sq ?_; intro K14 hK14; refine wp_region_lit ?_; refine xas rfl ?_; refine wpList_nil ?_; refine tn ?_; refine hK14 _ _ ?_; clear hK14 K14
            refine wp_ret ?_; refine br ?_; refine tr ?_; clear hK7 K7
            replace H := H.keeps [0] rfl
            refine hQ _ _ _ ?_; refine r1 rfl rfl H ?_
            rw [if_neg h1, if_neg h2, if_pos h3, if_neg h4, if_pos h5]; exact ⟨rfl, rfl⟩
          · have h5 : ¬ roomA a < r.n := by have := of_decide_eq_false h5; omega
            refine wp_skip ?_; refine bn ?_; refine tn ?_; refine hK7 _ _ ?_; clear hK7 K7; refine sq ?_; intro K14 hK14; refine wp_region_lit ?_; refine xas rfl ?_
            refine wpList_nil ?_; refine tn ?_; refine hK14 _ _ ?_; clear hK14 K14; refine wp_ret ?_
            replace H := H.keeps [0] rfl
            refine hQ _ _ _ ?_; refine r1 rfl rfl H ?_
            rw [if_neg h1, if_neg h2, if_pos h3, if_neg h4, if_neg h5]; exact ⟨rfl, rfl⟩
      · have h3 : ¬ r.kind = 3 := by simpa using h3
        refine sq ?_; intro K10 hK10; refine wp_region_lit ?_; refine xeq rfl rfl ?_; refine xas rfl ?_; refine wpList_nil ?_
        refine tn ?_; refine hK10 _ _ ?_; clear hK10 K10
        refine if_ rfl (fun h4 => ?_) (fun h4 => ?_)
        · have h4 : r.kind = 4 := by simpa using h4
          refine sq ?_; intro K11 hK11
          refine drws (m := 7) 100000 rfl rfl H ?_; clear H; intro w H; refine dt' 0 rfl (by kernel_rfl) H (yfa rfl) ?_
          refine dt 1 rfl (by kernel_rfl) H (zldb 1 rfl rfl rfl) ?_
          refine dt' 2 rfl (by kernel_rfl) H (yfa rfl) ?_
          refine dt 3 rfl (by kernel_rfl) H (zldb 0 rfl rfl rfl) ?_
          refine do1 4 rfl (by kernel_rfl) ?_; intro K12 hK12
          refine xc [] H ((c_numb r.lease)) rfl rfl rfl rfl rfl ?_; rintro _ _ w ⟨b0, rfl, rfl⟩ H; replace H := H.ap rfl
          refine wpList_nil ?_; refine tn ?_; refine hK12 _ _ (fun _ => H.drop) ?_; clear hK12 K12; refine do1 5 rfl (by kernel_rfl) ?_; intro K13 hK13
          replace H := H.keeps [3, 0, 0, 0] rfl
          refine xcw H ((c_find A [blk b0 [.int .u64 r.lease] 22, blk b3 (recV r) recT, blk b2 (acctV a lo lc co cc) acctT] (isId r.lease) 146 [.pointer (some ⟨b0, 0, none⟩)] a.leases lo lc ha.nl hr.l (fun x _ => (c_numb1 A b0 r.lease x).frame [blk b3 (recV r) recT, blk b2 (acctV a lo lc co cc) acctT]))) rfl rfl rfl rfl ?_; rintro _ _ w ⟨rfl, rfl⟩ H
          replace H := H.keeps [2, 2, 0] rfl
          refine wpList_nil ?_; refine tn ?_; refine hK13 _ _ (fun _ => H) ?_; clear hK13 K13; refine dt' 6 rfl (by kernel_rfl) H (yas rfl) ?_
          refine dd (by kernel_rfl) ?_; refine tn ?_; refine hK11 _ _ ?_; clear hK11 K11; refine sq ?_; intro K14 hK14; refine sq ?_; intro K15 hK15
          refine wp_region_lit ?_; refine xmv rfl ?_; refine xlt rfl rfl ?_; refine wpList_nil ?_; refine tn ?_; refine hK15 _ _ ?_; clear hK15 K15
          refine if_ rfl (fun h5 => ?_) (fun h5 => ?_)
          · have h5 : findI (isId r.lease) a.leases < 0 := by simpa using h5
            refine sq ?_; intro K16 hK16; refine wp_region_lit ?_; refine xas rfl ?_; refine wpList_nil ?_; refine tn ?_; refine hK16 _ _ ?_; clear hK16 K16
            refine wp_ret ?_; refine tr ?_; clear hK14 K14; refine br ?_; refine tr ?_; clear hK7 K7
            replace H := H.keeps [2] rfl
            refine hQ _ _ _ ?_; refine r1 rfl rfl H ?_
            rw [if_neg h1, if_neg h2, if_neg h3, if_pos h4, if_pos h5]; exact ⟨rfl, rfl⟩
          · have h5 : ¬ findI (isId r.lease) a.leases < 0 := by simpa using h5
            obtain ⟨k, hk, hkl⟩ := findI_lt h5
            have hg : a.leases[k]? = some a.leases[k] := List.getElem?_eq_getElem hkl
            have hsz : sizeAt a.leases (findI (isId r.lease) a.leases) = a.leases[k].size := by rw [hk]; unfold sizeAt; rw [Int.toNat_natCast, hg]
            generalize a.leases[k] = x at hg hsz
            rw [hk]
            refine wp_skip ?_; refine tn ?_; refine hK14 _ _ ?_; clear hK14 K14; refine sq ?_; intro K16 hK16; refine drws (m := 9) 100000 rfl rfl H ?_; clear H; intro w H
            refine dt' 0 rfl (by kernel_rfl) H (yfa rfl) ?_
            refine dt 1 rfl (by kernel_rfl) H (zldb 0 rfl rfl rfl) ?_
            refine dt' 2 rfl (by kernel_rfl) H (yfa rfl) ?_
            refine dt 3 rfl (by kernel_rfl) H (zldb 1 rfl rfl rfl) ?_
            refine dt' 4 rfl (by kernel_rfl) H (ymv rfl) ?_; refine do1 5 rfl (by kernel_rfl) ?_; intro K17 hK17
            refine xiar hr.l (flat_get leaseV_len hg) (by simp [leaseV]) hkl rfl rfl rfl ?_; intro b46 o46 hx46
            refine wpList_nil ?_; refine tn ?_; refine hK17 _ _ (fun _ => H) ?_; clear hK17 K17; refine dt' 6 rfl (by kernel_rfl) H (yfa rfl) ?_
            refine dt 7 rfl (by kernel_rfl) H (zld 2 rfl rfl (hx46 _ _ rfl)) ?_
            refine dt' 8 rfl (by kernel_rfl) H (ygt rfl rfl) ?_; refine dd (by kernel_rfl) ?_; refine tn ?_; refine hK16 _ _ ?_; clear hK16 K16
            refine if_ rfl (fun h6 => ?_) (fun h6 => ?_)
            · have h6 : x.size < r.n := by have := of_decide_eq_true h6; omega
              refine sq ?_; intro K18 hK18; refine wp_region_lit ?_; refine xas rfl ?_; refine wpList_nil ?_; refine tn ?_; refine hK18 _ _ ?_; clear hK18 K18
              refine wp_ret ?_; refine br ?_; refine tr ?_; clear hK7 K7
              replace H := H.keeps [2] rfl
              refine hQ _ _ _ ?_; refine r1 rfl rfl H ?_
              rw [if_neg h1, if_neg h2, if_neg h3, if_pos h4, if_neg h5, hsz, if_pos h6]; exact ⟨rfl, rfl⟩
            · have h6 : ¬ x.size < r.n := by have := of_decide_eq_false h6; omega
              refine wp_skip ?_; refine bn ?_; refine tn ?_; refine hK7 _ _ ?_; clear hK7 K7; refine sq ?_; intro K18 hK18; refine wp_region_lit ?_; refine xas rfl ?_
              refine wpList_nil ?_; refine tn ?_; refine hK18 _ _ ?_; clear hK18 K18; refine wp_ret ?_
              replace H := H.keeps [2] rfl
              refine hQ _ _ _ ?_; refine r1 rfl rfl H ?_
              rw [if_neg h1, if_neg h2, if_neg h3, if_pos h4, if_neg h5, hsz, if_neg h6]; exact ⟨rfl, rfl⟩
        · have h4 : ¬ r.kind = 4 := by simpa using h4
          refine sq ?_; intro K11 hK11; refine wp_region_lit ?_; refine xeq rfl rfl ?_; refine xas rfl ?_; refine wpList_nil ?_
          refine tn ?_; refine hK11 _ _ ?_; clear hK11 K11
          refine if_ rfl (fun h5 => ?_) (fun h5 => ?_)
          · have h5 : r.kind = 5 := by simpa using h5
            refine sq ?_; intro K12 hK12; refine sq ?_; intro K13 hK13; refine wp_region_lit ?_; refine xfa rfl ?_
            refine xldb 1 H rfl rfl rfl ?_
            refine xli rfl ?_; refine xgt rfl rfl ?_; refine wpList_nil ?_; refine tn ?_; refine hK13 _ _ ?_; clear hK13 K13
            refine if_ rfl (fun h6 => ?_) (fun h6 => ?_)
            · have h6 : 0 < a.leases.length := by have := of_decide_eq_true h6; omega
              refine sq ?_; intro K14 hK14; refine wp_region_lit ?_; refine xas rfl ?_; refine wpList_nil ?_; refine tn ?_; refine hK14 _ _ ?_; clear hK14 K14
              refine wp_ret ?_; refine tr ?_; clear hK12 K12; refine br ?_; refine tr ?_; clear hK7 K7
              replace H := H.keeps [2] rfl
              refine hQ _ _ _ ?_; refine r1 rfl rfl H ?_
              rw [if_neg h1, if_neg h2, if_neg h3, if_neg h4, if_pos h5, if_pos h6]; exact ⟨rfl, rfl⟩
            · have h6 : ¬ 0 < a.leases.length := by have := of_decide_eq_false h6; omega
              refine wp_skip ?_; refine tn ?_; refine hK12 _ _ ?_; clear hK12 K12; refine sq ?_; intro K14 hK14; refine wp_region_lit ?_; refine xfa rfl ?_
              refine xldb 1 H rfl rfl rfl ?_
              refine xge rfl rfl ?_; refine wpList_nil ?_; refine tn ?_; refine hK14 _ _ ?_; clear hK14 K14
              refine if_ rfl (fun h7 => ?_) (fun h7 => ?_)
              · have h7 : 65536 ≤ a.period := by have := of_decide_eq_true h7; omega
                refine sq ?_; intro K15 hK15; refine wp_region_lit ?_; refine xas rfl ?_; refine wpList_nil ?_; refine tn ?_; refine hK15 _ _ ?_; clear hK15 K15
                refine wp_ret ?_; refine br ?_; refine tr ?_; clear hK7 K7
                replace H := H.keeps [2] rfl
                refine hQ _ _ _ ?_; refine r1 rfl rfl H ?_
                rw [if_neg h1, if_neg h2, if_neg h3, if_neg h4, if_pos h5, if_neg h6, if_pos h7]; exact ⟨rfl, rfl⟩
              · have h7 : ¬ 65536 ≤ a.period := by have := of_decide_eq_false h7; omega
                refine wp_skip ?_; refine bn ?_; refine tn ?_; refine hK7 _ _ ?_; clear hK7 K7; refine sq ?_; intro K15 hK15; refine wp_region_lit ?_; refine xas rfl ?_
                refine wpList_nil ?_; refine tn ?_; refine hK15 _ _ ?_; clear hK15 K15; refine wp_ret ?_
                replace H := H.keeps [2] rfl
                refine hQ _ _ _ ?_; refine r1 rfl rfl H ?_
                rw [if_neg h1, if_neg h2, if_neg h3, if_neg h4, if_pos h5, if_neg h6, if_neg h7]; exact ⟨rfl, rfl⟩
          · have h5 : ¬ r.kind = 5 := by simpa using h5
            refine wp_skip ?_; refine bn ?_; refine tn ?_; refine hK7 _ _ ?_; clear hK7 K7; refine sq ?_; intro K12 hK12; refine wp_region_lit ?_; refine xas rfl ?_
            refine wpList_nil ?_; refine tn ?_; refine hK12 _ _ ?_; clear hK12 K12; refine wp_ret ?_
            replace H := H.keeps [2] rfl
            refine hQ _ _ _ ?_; refine r1 rfl rfl H ?_
            rw [if_neg h1, if_neg h2, if_neg h3, if_neg h4, if_neg h5]; exact ⟨rfl, rfl⟩
end Go.Proofs.YtegllbmkkfnajaaGreatDoor
end
section
namespace Go.Proofs.YtegllbmkkfnajaaGreatDoor
open Go Go.Proofs
attribute [local irreducible] Go.wpList Go.Code.wp St Fn mk
set_option maxRecDepth 20000
def dueOf (n b : Nat) : Nat := if fPrice b = true then pdue n b else 0
def stmtOf (a : Acct) : Stmt := ⟨a.tenant, a.period, a.used, a.cap, a.bits, dueOf a.used a.bits⟩
theorem c_due_t {A : Asn} (hT : Tab A) {n b : Nat} (hn : n < 18446744073709551616) (hb : b < 18446744073709551616) (h : fPrice b = true) : Fn Tryz.prog 139 [.int .u64 n, .int .u64 b] [A] (Ret fun v L => v = .tuple #[.int .u64 (pdue n b : Nat), .int .i64 0] ∧ L = [A]) := by
  have := c_due A hT n b hn hb; simpa only [if_pos h] using this
theorem c_due_f {A : Asn} (hT : Tab A) {n b : Nat} (hn : n < 18446744073709551616) (hb : b < 18446744073709551616) (h : ¬ fPrice b = true) : Fn Tryz.prog 139 [.int .u64 n, .int .u64 b] [A] (Ret fun v L => v = .tuple #[.int .u64 0, .int .i64 13] ∧ L = [A]) := by
  have := c_due A hT n b hn hb; simpa only [if_neg h] using this
theorem c_statement (A : Asn) (hT : Tab A) (a : Acct) (lo : Option Addr) (lc : Nat) (co : Option Addr) (cc : Nat) (ha : a.ok) :
    Fn Tryz.prog 117 [.agg (acctV a lo lc co cc).toArray] [A] (Ret fun v L => v = .agg (stmtV (stmtOf a)).toArray ∧ L = [A]) := by
  unfold stmtOf dueOf
  refine Fn.intro Tryz.call117 Tryz.func117 rfl Tryz.ntmps117 rfl ?_; intro g w Q hQ H
  refine sq ?_; intro K1 hK1; refine wp_region_lit ?_; refine xbx H rfl rfl ?_; intro b1 w H; refine xal H ?_; intro b2 w H; refine wpList_nil ?_
  refine tn ?_; refine hK1 _ _ ?_; clear hK1 K1; refine sq ?_; intro K2 hK2; refine wp_region_lit ?_; refine xfa rfl ?_
  refine xldb 1 H rfl rfl rfl ?_
  refine xfa rfl ?_
  refine xldb 1 H rfl rfl rfl ?_
  refine xfa rfl ?_
  refine xldb 1 H rfl rfl rfl ?_
  refine xfa rfl ?_
  refine xldb 1 H rfl rfl rfl ?_
  refine xfa rfl ?_
  refine xldb 1 H rfl rfl rfl ?_
  refine xbu rfl ?_; refine xal H ?_; intro b3 w H
  (refine xsta 0 H rfl rfl rfl rfl rfl rfl ?_; intro w H)
  refine wpList_nil ?_; refine tn ?_; refine hK2 _ _ ?_; clear hK2 K2; refine sq ?_; intro K3 hK3; refine sq ?_; intro K4 hK4; refine wp_region_lit ?_
  refine xfa rfl ?_
  refine xldb 2 H rfl rfl rfl ?_
  refine xfa rfl ?_
  refine xldb 2 H rfl rfl rfl ?_
  by_cases h : fPrice a.bits = true
  · refine xc [3] H ((c_due_t hT ha.used ha.bits h)) rfl rfl rfl rfl rfl ?_; rintro _ _ w ⟨rfl, rfl⟩ H; replace H := H.ap rfl
    refine xmv rfl ?_; refine xex rfl rfl ?_; refine xex rfl rfl ?_; refine xas rfl ?_; refine xas rfl ?_; refine wpList_nil ?_
    refine tn ?_; refine hK4 _ _ ?_; clear hK4 K4; refine sq ?_; intro K5 hK5; refine wp_region_lit ?_; refine xmv rfl ?_; refine xeq rfl rfl ?_
    refine wpList_nil ?_; refine tn ?_; refine hK5 _ _ ?_; clear hK5 K5; refine ift rfl ?_; refine wp_region_lit ?_; refine xmv rfl ?_; refine xfa rfl ?_
    (refine xst 1 H rfl rfl rfl rfl rfl ?_; intro w H)
    refine wpList_nil ?_; refine tn ?_; refine hK3 _ _ ?_; clear hK3 K3; refine sq ?_; intro K6 hK6; refine wp_region_lit ?_
    refine xldab 0 H rfl rfl rfl rfl ?_
    (refine xsta 2 H rfl rfl rfl rfl rfl rfl ?_; intro w H)
    refine wpList_nil ?_; refine tn ?_; refine hK6 _ _ ?_; clear hK6 K6; refine wp_ret ?_
    refine hQ _ _ _ ?_
    refine rca 0 [2] rfl rfl H rfl (blk_cells (k := 6) rfl rfl) rfl rfl ?_
    rw [if_pos h]; exact ⟨rfl, rfl⟩
  · refine xc [3] H ((c_due_f hT ha.used ha.bits h)) rfl rfl rfl rfl rfl ?_; rintro _ _ w ⟨rfl, rfl⟩ H; replace H := H.ap rfl
    refine xmv rfl ?_; refine xex rfl rfl ?_; refine xex rfl rfl ?_; refine xas rfl ?_; refine xas rfl ?_; refine wpList_nil ?_
    refine tn ?_; refine hK4 _ _ ?_; clear hK4 K4; refine sq ?_; intro K5 hK5; refine wp_region_lit ?_; refine xmv rfl ?_; refine xeq rfl rfl ?_
    refine wpList_nil ?_; refine tn ?_; refine hK5 _ _ ?_; clear hK5 K5; refine iff_ rfl ?_; refine wp_skip ?_; refine tn ?_; refine hK3 _ _ ?_; clear hK3 K3
    refine sq ?_; intro K6 hK6; refine wp_region_lit ?_
    refine xldab 1 H rfl rfl rfl rfl ?_
    (refine xsta 2 H rfl rfl rfl rfl rfl rfl ?_; intro w H)
    refine wpList_nil ?_; refine tn ?_; refine hK6 _ _ ?_; clear hK6 K6; refine wp_ret ?_
    refine hQ _ _ _ ?_
    refine rca 0 [1] rfl rfl H rfl (blk_cells (k := 6) rfl rfl) rfl rfl ?_
    rw [if_neg h]; exact ⟨rfl, rfl⟩
end Go.Proofs.YtegllbmkkfnajaaGreatDoor
end
section
namespace Go.Proofs.YtegllbmkkfnajaaGreatDoor
open Go Go.Proofs
attribute [local irreducible] Go.wpList Go.Code.wp St Fn mk
set_option maxRecDepth 20000
theorem flat_one {α : Type} {f : α → List Value} (hf : ∀ x, ∀ v ∈ f x, v.oneCell' = true) (l : List α) : ∀ v ∈ l.flatMap f, v.oneCell' = true := by
  intro v hv
  obtain ⟨x, _, hx⟩ := List.mem_flatMap.1 hv
  exact hf x v hx
theorem leaseV_one (l : Lease) : ∀ v ∈ leaseV l, v.oneCell' = true := by intro v hv; simp [leaseV] at hv; rcases hv with rfl | rfl <;> rfl
theorem stmtV_one (s : Stmt) : ∀ v ∈ stmtV s, v.oneCell' = true := by intro v hv; simp [stmtV] at hv; rcases hv with rfl | rfl | rfl | rfl | rfl | rfl <;> rfl
theorem c_cloneL (A : Asn) (ao : Option Addr) (cap : Nat) (l : List Lease) (hr : Rd A ao (leasesV l)) (hl : l.length ≤ 1099511627776) :
    Fn Tryz.prog 75 [.slice ao l.length cap] [A] (Ret fun v L => ∃ ao' cap', v = .slice ao' l.length cap' ∧ L = [own ao' cap' leaseT 2 l.length (leasesV l), A]) := by
  refine Fn.intro Tryz.call75 Tryz.func75 rfl Tryz.ntmps75 rfl ?_; intro g w Q hQ H
  refine sq ?_; intro K1 hK1; refine wp_region_lit ?_; refine xas rfl ?_; refine wpList_nil ?_; refine tn ?_; refine hK1 _ _ ?_; clear hK1 K1
  refine sq ?_; intro K2 hK2; refine sq ?_; intro K3 hK3; refine wp_region_lit ?_; refine xmv rfl ?_; refine xsn rfl rfl ?_; refine wpList_nil ?_
  refine tn ?_; refine hK3 _ _ ?_; clear hK3 K3
  refine if_ rfl (fun h => ?_) (fun h => ?_)
  · have h : l = [] := by
      cases ao with
      | none => have : leasesV l = [] := hr; cases l with | nil => rfl | cons x l => simp [leasesV, leaseV] at this
      | some a => simp at h
    subst h
    refine sq ?_; intro K4 hK4; refine wp_region_lit ?_; refine xas rfl ?_; refine wpList_nil ?_; refine tn ?_; refine hK4 _ _ ?_; clear hK4 K4; refine wp_ret ?_
    refine tr ?_; clear hK2 K2
    replace H := H.ownNil leaseT 2
    refine hQ _ _ _ ?_; refine r1 rfl rfl H ?_
    exact ⟨none, 0, rfl, rfl⟩
  · refine wp_skip ?_; refine tn ?_; refine hK2 _ _ ?_; clear hK2 K2; refine sq ?_; intro K4 hK4; refine wp_region_lit ?_
    refine xbs H rfl rfl rfl (by simp [Value.cells] <;> rfl) rfl rfl ?_; intro b5 w H; refine xmv rfl ?_
    refine xap 0 H rfl rfl rfl (src_at (news := leasesV l) 1 H rfl hr (flat_len leaseV_len l)) (flat_one leaseV_one l) (by omega) (by simp only [maxLen]; omega) ?_; intro ao7 cap7 w H hn7
    simp only [Nat.zero_add, List.nil_append] at H
    refine xas rfl ?_; refine wpList_nil ?_; refine tn ?_; refine hK4 _ _ ?_; clear hK4 K4; refine wp_ret ?_
    refine hQ _ _ _ ?_; refine r1 rfl rfl H ?_
    exact ⟨_, _, by simp only [Nat.zero_add], rfl⟩
theorem c_cloneS (A : Asn) (ao : Option Addr) (cap : Nat) (l : List Stmt) (hr : Rd A ao (closedV l)) (hl : l.length ≤ 1099511627776) :
    Fn Tryz.prog 76 [.slice ao l.length cap] [A] (Ret fun v L => ∃ ao' cap', v = .slice ao' l.length cap' ∧ L = [own ao' cap' stmtT 6 l.length (closedV l), A]) := by
  refine Fn.intro Tryz.call76 Tryz.func76 rfl Tryz.ntmps76 rfl ?_; intro g w Q hQ H
  refine sq ?_; intro K1 hK1; refine wp_region_lit ?_; refine xas rfl ?_; refine wpList_nil ?_; refine tn ?_; refine hK1 _ _ ?_; clear hK1 K1
  refine sq ?_; intro K2 hK2; refine sq ?_; intro K3 hK3; refine wp_region_lit ?_; refine xmv rfl ?_; refine xsn rfl rfl ?_; refine wpList_nil ?_
  refine tn ?_; refine hK3 _ _ ?_; clear hK3 K3
  refine if_ rfl (fun h => ?_) (fun h => ?_)
  · have h : l = [] := by
      cases ao with
      | none => have : closedV l = [] := hr; cases l with | nil => rfl | cons x l => simp [closedV, stmtV] at this
      | some a => simp at h
    subst h
    refine sq ?_; intro K4 hK4; refine wp_region_lit ?_; refine xas rfl ?_; refine wpList_nil ?_; refine tn ?_; refine hK4 _ _ ?_; clear hK4 K4; refine wp_ret ?_
    refine tr ?_; clear hK2 K2
    replace H := H.ownNil stmtT 6
    refine hQ _ _ _ ?_; refine r1 rfl rfl H ?_
    exact ⟨none, 0, rfl, rfl⟩
  · refine wp_skip ?_; refine tn ?_; refine hK2 _ _ ?_; clear hK2 K2; refine sq ?_; intro K4 hK4; refine wp_region_lit ?_
    refine xbs H rfl rfl rfl (by simp [Value.cells] <;> rfl) rfl rfl ?_; intro b5 w H; refine xmv rfl ?_
    refine xap 0 H rfl rfl rfl (src_at (news := closedV l) 1 H rfl hr (flat_len stmtV_len l)) (flat_one stmtV_one l) (by omega) (by simp only [maxLen]; omega) ?_; intro ao7 cap7 w H hn7
    simp only [Nat.zero_add, List.nil_append] at H
    refine xas rfl ?_; refine wpList_nil ?_; refine tn ?_; refine hK4 _ _ ?_; clear hK4 K4; refine wp_ret ?_
    refine hQ _ _ _ ?_; refine r1 rfl rfl H ?_
    exact ⟨_, _, by simp only [Nat.zero_add], rfl⟩
theorem c_cloneB (A : Asn) (ao : Option Addr) (cap : Nat) (l : List UInt8) (hr : Bys A ao l) (hl : l.length ≤ 1099511627776) :
    Fn Tryz.prog 66 [.slice ao l.length cap] [A] (Ret fun v L => ∃ ao' cap', v = .slice ao' l.length cap' ∧ L = [own ao' cap' 5 1 l.length (bv l), A]) := by
  refine Fn.intro Tryz.call66 Tryz.func66 rfl Tryz.ntmps66 rfl ?_; intro g w Q hQ H
  refine sq ?_; intro K1 hK1; refine wp_region_lit ?_; refine xas rfl ?_; refine wpList_nil ?_; refine tn ?_; refine hK1 _ _ ?_; clear hK1 K1
  refine sq ?_; intro K2 hK2; refine sq ?_; intro K3 hK3; refine wp_region_lit ?_; refine xmv rfl ?_; refine xsn rfl rfl ?_; refine wpList_nil ?_
  refine tn ?_; refine hK3 _ _ ?_; clear hK3 K3
  refine if_ rfl (fun h => ?_) (fun h => ?_)
  · have h : l = [] := by
      cases ao with
      | none => have : bv l = [] := hr; simpa [bv] using this
      | some a => simp at h
    subst h
    refine sq ?_; intro K4 hK4; refine wp_region_lit ?_; refine xas rfl ?_; refine wpList_nil ?_; refine tn ?_; refine hK4 _ _ ?_; clear hK4 K4; refine wp_ret ?_
    refine tr ?_; clear hK2 K2
    replace H := H.ownNil 5 1
    refine hQ _ _ _ ?_; refine r1 rfl rfl H ?_
    exact ⟨none, 0, rfl, rfl⟩
  · refine wp_skip ?_; refine tn ?_; refine hK2 _ _ ?_; clear hK2 K2; refine sq ?_; intro K4 hK4; refine wp_region_lit ?_
    refine xbs H rfl rfl rfl (by simp [Value.cells] <;> rfl) rfl rfl ?_; intro b5 w H; refine xmv rfl ?_
    refine xap 0 H rfl rfl rfl (src_at (news := bv l) 1 H rfl hr (by simp)) (bv_one _) (by omega) (by simp only [maxLen]; omega) ?_; intro ao7 cap7 w H hn7
    simp only [Nat.zero_add, List.nil_append] at H
    refine xas rfl ?_; refine wpList_nil ?_; refine tn ?_; refine hK4 _ _ ?_; clear hK4 K4; refine wp_ret ?_
    refine hQ _ _ _ ?_; refine r1 rfl rfl H ?_
    exact ⟨_, _, by simp only [Nat.zero_add], rfl⟩
end Go.Proofs.YtegllbmkkfnajaaGreatDoor
end
section
namespace Go.Proofs.YtegllbmkkfnajaaGreatDoor
open Go Go.Proofs
attribute [local irreducible] Go.wpList Go.Code.wp St Fn mk
set_option maxRecDepth 20000
theorem c_aclone (A : Asn) (a : Acct) (lo : Option Addr) (lc : Nat) (co : Option Addr) (cc : Nat) (hnl : a.leases.length ≤ 1099511627776) (hnc : a.closed.length ≤ 1099511627776) (hr : AcctR A a lo lc co cc) :
    Fn Tryz.prog 51 [.agg (acctV a lo lc co cc).toArray] [A]
      (Ret fun v L => ∃ lo' lc' co' cc', v = .agg (acctV a lo' lc' co' cc').toArray ∧ L = [own lo' lc' leaseT 2 a.leases.length (leasesV a.leases), own co' cc' stmtT 6 a.closed.length (closedV a.closed), A]) := by
  refine Fn.intro Tryz.call51 Tryz.func51 rfl Tryz.ntmps51 rfl ?_; intro g w Q hQ H
  refine sq ?_; intro K1 hK1; refine wp_region_lit ?_; refine xbx H rfl rfl ?_; intro b1 w H; refine xal H ?_; intro b2 w H; refine wpList_nil ?_
  refine tn ?_; refine hK1 _ _ ?_; clear hK1 K1; refine sq ?_; intro K2 hK2; refine wp_region_lit ?_; refine xfa rfl ?_
  refine xldb 1 H rfl rfl rfl ?_
  refine xc [2] H ((c_cloneL A lo lc a.leases hr.l hnl)) rfl rfl rfl rfl rfl ?_; rintro _ _ w ⟨lo', lc', rfl, rfl⟩ H; replace H := H.ap rfl
  replace H := H.front 1 rfl
  refine xfa rfl ?_
  (refine xst 3 H rfl rfl rfl rfl rfl ?_; intro w H)
  refine wpList_nil ?_; refine tn ?_; refine hK2 _ _ ?_; clear hK2 K2; refine sq ?_; intro K3 hK3; refine wp_region_lit ?_; refine xfa rfl ?_
  refine xldb 0 H rfl rfl rfl ?_
  replace H := H.front 1 rfl
  refine xc [0] H ((c_cloneS A co cc a.closed hr.c hnc)) rfl rfl rfl rfl rfl ?_; rintro _ _ w ⟨co', cc', rfl, rfl⟩ H; replace H := H.ap rfl
  refine xfa rfl ?_
  (refine xst 2 H rfl rfl rfl rfl rfl ?_; intro w H)
  refine wpList_nil ?_; refine tn ?_; refine hK3 _ _ ?_; clear hK3 K3; refine sq ?_; intro K4 hK4; refine wp_region_lit ?_
  refine xldab 0 H rfl rfl rfl rfl ?_
  (refine xsta 4 H rfl rfl rfl rfl rfl rfl ?_; intro w H)
  refine wpList_nil ?_; refine tn ?_; refine hK4 _ _ ?_; clear hK4 K4; refine wp_ret ?_
  refine hQ _ _ _ ?_
  refine rca 0 [4, 2, 2] rfl rfl H rfl (blk_cells (k := 7) rfl rfl) rfl rfl ?_
  exact ⟨lo', lc', co', cc', rfl, rfl⟩
end Go.Proofs.YtegllbmkkfnajaaGreatDoor
end
section
namespace Go.Proofs.YtegllbmkkfnajaaGreatDoor
open Go Go.RowKit
section
variable {P : Program} {ops : Array Oper} {Q : Exit → Act → World → Prop} {rest : List Oper} {n d ty : Nat} {pos : String} {af : Array Edge} {ρ : Env} {ds : List Deferred} {w : World} {g : Gh} {L M : List Asn}
theorem run_copy {T U E sz by_ nn m cap i dl dc : Nat} {z : List Value} {ao dao : Option Addr} {cells news : List Value} {x : Value} [TSl P T E sz] [TEl P E sz by_ z]
    (H : St g w (own ao cap E sz nn cells :: L)) (hs : Src P w sz x m news) (h1 : ∀ v ∈ news.take (min m dl * sz), v.oneCell' = true) (hin : i + dl ≤ nn)
    (hd : min m dl = 0 ∨ ∃ b off, ao = some ⟨b, off, none⟩ ∧ dao = some ⟨b, off + i * sz, none⟩) :
    ∃ w', (Builtin.copy_ #[T, U] ty #[.slice dao dl dc, x]).run P w = .ok (.int .i64 (min m dl : Nat)) w' ∧
      St g w' (own ao cap E sz nn (cells.take (i * sz) ++ news.take (min m dl * sz) ++ cells.drop (i * sz + (news.take (min m dl * sz)).length)) :: L) := by
  obtain ⟨inf, v, hi, hsz, hby, hzz, hv⟩ := TEl.out (P := P) (E := E)
  have hT := TSl.out (P := P) (T := T)
  have hpos := TEl.pos (P := P) (E := E)
  have hcl := H.ownLen.1
  obtain ⟨hs1, hs2, hs3⟩ := hs
  have hk : min m dl ≤ m := Nat.min_le_left _ _
  have hsm := hs3 (min m dl) hk w rfl
  subst hsz
  have hmin : Nat.min m dl = min m dl := rfl
  by_cases h0 : min m dl = 0
  · refine ⟨w, ?_, by rw [h0]; simpa using H⟩
    rw [h0] at hsm
    simp only [Nat.zero_mul, List.take_zero] at hsm
    cases dao with
    | none => simp [Builtin.copy_, run_underlying hT, hs1, sizeOf, typeInfo, hi, hmin, h0, hsm, goInt]
    | some a => simp [Builtin.copy_, run_underlying hT, hs1, sizeOf, typeInfo, hi, hmin, h0, hsm, goInt, storeCells]
  · obtain ⟨b, off, rfl, rfl⟩ := hd.resolve_left h0
    have hln : (news.take (min m dl * inf.size)).length = min m dl * inf.size := by
      rw [List.length_take, hs2, Nat.min_eq_left (Nat.mul_le_mul_right _ hk)]
    have hq : i * inf.size + (news.take (min m dl * inf.size)).length ≤ cells.length := by
      rw [hln, hcl, ← Nat.add_mul]
      exact Nat.mul_le_mul_right _ (Nat.le_trans (Nat.add_le_add_left (Nat.min_le_right _ _) _) hin)
    have hne : news.take (min m dl * inf.size) ≠ [] := by
      intro e; rw [e] at hln
      have : 0 < min m dl * inf.size := Nat.mul_pos (Nat.pos_of_ne_zero h0) hpos
      simp at hln; omega
    obtain ⟨w', hr, hS⟩ := own_put (P := P) (q := i * inf.size) (vs := news.take (min m dl * inf.size)) H rfl hq hne h1
    refine ⟨w', ?_, hS⟩
    simp [Builtin.copy_, run_underlying hT, hs1, sizeOf, typeInfo, hi, hmin, hsm, hr, goInt]
theorem xcpo {T U E sz by_ nn m cap dl dc : Nat} {z : List Value} {ao dao : Option Addr} {cells news : List Value} {x y : Operand} {u : Value} [TSl P T E sz] [TEl P E sz by_ z] (k i : Nat)
    (H : St g w L) (hk : takeAt k L = some (own ao cap E sz nn cells, M)) (hx : ev n ρ x = some (.slice dao dl dc)) (hy : ev n ρ y = some u) (hs : Src P w sz u m news) (h1 : ∀ v ∈ news.take (min m dl * sz), v.oneCell' = true) (hin : i + dl ≤ nn)
    (hd : min m dl = 0 ∨ ∃ b off, ao = some ⟨b, off, none⟩ ∧ dao = some ⟨b, off + i * sz, none⟩)
    (h : ∀ w', St g w' (own ao cap E sz nn (cells.take (i * sz) ++ news.take (min m dl * sz) ++ cells.drop (i * sz + (news.take (min m dl * sz)).length)) :: M) → wpList P ops Q rest (mk n (upd ρ d (.int .i64 (min m dl : Nat))) ds) w') :
    wpList P ops Q (⟨some d, .call { callee := .builtin .copy, args := #[x, y], argTypes := #[T, U] }, ty, pos, af, none⟩ :: rest) (mk n ρ ds) w := by
  obtain ⟨w', hr, hS⟩ := run_copy (P := P) (T := T) (U := U) (ty := ty) (dc := dc) (H.front k hk) hs h1 hin hd
  exact st_val (by simp [execOp, resolve, invoke, builtin, mk_eval hx, mk_eval hy, hr]) (h w' hS)
end
end Go.Proofs.YtegllbmkkfnajaaGreatDoor
end
section
namespace Go.Proofs.YtegllbmkkfnajaaGreatDoor
open Go Go.Proofs
attribute [local irreducible] Go.wpList Go.Code.wp St Fn mk
set_option maxRecDepth 20000
theorem flat_take {α : Type} {f : α → List Value} {sz : Nat} (hf : ∀ x, (f x).length = sz) : ∀ (l : List α) (k : Nat), (l.flatMap f).take (k * sz) = (l.take k).flatMap f
  | [], k => by simp
  | x :: l, 0 => by simp
  | x :: l, k + 1 => by
    simp only [List.flatMap_cons, List.take_succ_cons, List.take_append, hf x]
    rw [List.take_of_length_le (by rw [hf x]; exact Nat.le_mul_of_pos_left _ (Nat.succ_pos k)), show (k + 1) * sz - sz = k * sz by rw [Nat.succ_mul]; omega, flat_take hf l k]
theorem flat_drop {α : Type} {f : α → List Value} {sz : Nat} (hf : ∀ x, (f x).length = sz) : ∀ (l : List α) (k : Nat), (l.flatMap f).drop (k * sz) = (l.drop k).flatMap f
  | [], k => by simp
  | x :: l, 0 => by simp
  | x :: l, k + 1 => by
    simp only [List.flatMap_cons, List.drop_succ_cons, List.drop_append, hf x]
    rw [List.drop_of_length_le (by rw [hf x]; exact Nat.le_mul_of_pos_left _ (Nat.succ_pos k)), show (k + 1) * sz - sz = k * sz by rw [Nat.succ_mul]; omega, flat_drop hf l k, List.nil_append]
theorem c_without (A : Asn) (l : List Lease) (lo : Option Addr) (lc k : Nat) (hk : k < l.length) (hl : l.length ≤ 1099511627776) (hr : Rd A lo (leasesV l)) (hc : l.length ≤ lc) :
    Fn Tryz.prog 115 [.slice lo l.length lc, .int .i64 k] [A] (Ret fun v L => ∃ ao cap, v = .slice ao (l.eraseIdx k).length cap ∧ L = [own ao cap leaseT 2 (l.eraseIdx k).length (leasesV (l.eraseIdx k)), A]) := by
  have hlen : (l.eraseIdx k).length = l.length - 1 := List.length_eraseIdx_of_lt hk
  have hll := flat_len leaseV_len l
  have h1 := hr.sub (cap := lc) (nn := l.length) (sz := 2) hll hc 0 k (by omega)
  have h2 := hr.sub (cap := lc) (nn := l.length) (sz := 2) hll hc (k + 1) l.length (Nat.le_refl _)
  rw [subA_zero] at h1
  refine Fn.intro Tryz.call115 Tryz.func115 rfl Tryz.ntmps115 rfl ?_; intro g w Q hQ H
  refine sq ?_; intro K1 hK1; refine wp_region_lit ?_; refine xas rfl ?_; refine wpList_nil ?_; refine tn ?_; refine hK1 _ _ ?_; clear hK1 K1
  refine sq ?_; intro K2 hK2; refine wp_region_lit ?_; refine xmv rfl ?_; refine xli rfl ?_
  refine xsbi rfl rfl (wi64 (by omega)) ?_
  have e1 : ((l.length : Int) - 1) = ((l.length - 1 : Nat) : Int) := by omega
  refine xmk (l := l.length - 1) (c := l.length - 1) H rfl rfl e1 e1 (by omega) (by omega) (by simp only [maxLen]; omega) ?_; intro b9 w H
  refine xas rfl ?_; refine wpList_nil ?_; refine tn ?_; refine hK2 _ _ ?_; clear hK2 K2; refine sq ?_; intro K3 hK3; refine wp_region_lit ?_; refine xmv rfl ?_
  refine xmv rfl ?_; refine xmv rfl ?_
  refine xsl0 (h := k) rfl rfl rfl (by omega) ?_
  have hm1 : min k (l.length - 1) = k := by omega
  refine xcpo (m := k) (news := ((leasesV l).drop (0 * 2)).take ((k - 0) * 2)) (dl := l.length - 1) 0 0 H rfl rfl rfl (src_at 1 H rfl h1 (by simp [hll]; omega)) (fun v hv => flat_one leaseV_one l v (List.mem_of_mem_drop (List.mem_of_mem_take (List.mem_of_mem_take hv)))) (by omega) (.inr ⟨b9, 0, rfl, rfl⟩) ?_; intro w H
  have hA : ((leasesV l).drop (0 * 2)).take ((k - 0) * 2) = leasesV (l.take k) := by simp only [Nat.zero_mul, List.drop_zero, Nat.sub_zero]; exact flat_take leaseV_len l k
  have hB : ((leasesV l).drop ((k + 1) * 2)).take ((l.length - (k + 1)) * 2) = leasesV (l.drop (k + 1)) := by
    have := flat_drop leaseV_len l (k + 1)
    unfold leasesV at *; rw [this, flat_take leaseV_len, List.take_of_length_le (by simp)]
  have hAl : (leasesV (l.take k)).length = k * 2 := by rw [flat_len leaseV_len]; simp; omega
  have hBl : (leasesV (l.drop (k + 1))).length = (l.length - (k + 1)) * 2 := by rw [flat_len leaseV_len]; simp
  rw [hA] at H
  rw [hB] at h2
  obtain ⟨R, hR, hRl⟩ : ∃ R, (repV [Value.int IntKind.u64 0, Value.int IntKind.u64 0] (l.length - 1)).drop (0 * 2 + (List.take (min k (l.length - 1) * 2) (leasesV (l.take k))).length) = R ∧ R.length = (l.length - 1 - k) * 2 := by
    refine ⟨_, rfl, ?_⟩
    rw [hm1, List.take_of_length_le (by omega), List.length_drop, hAl, repV_length]; simp; omega
  rw [hR, hm1, List.take_of_length_le (l := leasesV (l.take k)) (by omega)] at H
  simp only [Nat.zero_mul, List.take_zero, List.nil_append] at H
  refine wpList_nil ?_; refine tn ?_; refine hK3 _ _ ?_; clear hK3 K3; refine sq ?_; intro K4 hK4; refine drwt (m := 8) rfl rfl H ?_; clear H; intro w H
  refine dt' 0 rfl (by kernel_rfl) True.intro (ymv rfl) ?_; refine dt' 1 rfl (by kernel_rfl) True.intro (ymv rfl) ?_
  refine dt' 3 rfl (by kernel_rfl) True.intro (ymv rfl) ?_; refine dt' 4 rfl (by kernel_rfl) True.intro (ymv rfl) ?_
  refine dt' 5 rfl (by kernel_rfl) True.intro (yadi rfl rfl (wi64 (by omega))) ?_
  refine dt' 2 rfl (by kernel_rfl) True.intro (ysl1 (l := k) rfl rfl rfl (by omega)) ?_
  refine do1 6 rfl (by kernel_rfl) ?_; intro K5 hK5
  refine xsl1 (l := k + 1) rfl rfl (by push_cast; rfl) (by omega) ?_
  refine wpList_nil ?_; refine tn ?_; refine hK5 _ _ (fun _ => True.intro) ?_; clear hK5 K5; refine do1 7 rfl (by kernel_rfl) ?_; intro K6 hK6
  have hd : min (l.length - (k + 1)) (l.length - 1 - k) = 0 ∨ ∃ b off, (some ⟨b9, 0, none⟩ : Option Addr) = some ⟨b, off, none⟩ ∧ subA (some ⟨b9, 0, none⟩) (l.length - 1) k 2 = some ⟨b, off + k * 2, none⟩ := by
    by_cases hk2 : k = l.length - 1
    · left; omega
    · right; refine ⟨b9, 0, rfl, ?_⟩; unfold subA; rw [if_neg (by omega)]; simp [Addr.add]; intro h; exact h.symm
  refine xcpo (m := l.length - (k + 1)) (news := leasesV (l.drop (k + 1))) 0 k H rfl rfl rfl (src_at 1 H rfl h2 hBl) (fun v hv => flat_one leaseV_one _ v (List.mem_of_mem_take hv)) (by omega) hd ?_; intro w H
  have hE : List.take (k * 2) (leasesV (List.take k l) ++ R) ++ List.take (min (l.length - (k + 1)) (l.length - 1 - k) * 2) (leasesV (List.drop (k + 1) l)) ++ List.drop (k * 2 + (List.take (min (l.length - (k + 1)) (l.length - 1 - k) * 2) (leasesV (List.drop (k + 1) l))).length) (leasesV (List.take k l) ++ R) = leasesV (l.eraseIdx k) := by
    rw [show min (l.length - (k + 1)) (l.length - 1 - k) = l.length - (k + 1) by omega, List.take_of_length_le (l := leasesV (List.drop (k + 1) l)) (by omega), List.take_left' hAl,
      List.drop_of_length_le (l := leasesV (List.take k l) ++ R) (by rw [List.length_append, hAl, hBl, hRl]; omega), List.append_nil, List.eraseIdx_eq_take_drop_succ]
    simp [leasesV]
  rw [hE] at H
  refine wpList_nil ?_; refine tn ?_; refine hK6 _ _ (fun _ => True.intro) ?_; clear hK6 K6; refine dd (by kernel_rfl) ?_
  refine tn ?_; refine hK4 _ _ ?_; clear hK4 K4; refine sq ?_; intro K7 hK7; refine wp_region_lit ?_; refine xmv rfl ?_; refine xas rfl ?_; refine wpList_nil ?_
  refine tn ?_; refine hK7 _ _ ?_; clear hK7 K7; refine wp_ret ?_
  rw [← hlen] at H ⊢
  refine hQ _ _ _ ?_; refine r1 rfl rfl H ?_
  exact ⟨_, _, rfl, rfl⟩
end Go.Proofs.YtegllbmkkfnajaaGreatDoor
end
section
namespace Go.Proofs.YtegllbmkkfnajaaGreatDoor
open Go Go.RowKit
def WF (ro : Option Nat) : Fence := { Fence.wide with round := ro }
theorem callsIn_WF {ro : Option Nat} {n : Nat} {P : Program} {f : FuncId} {args : Array Value} {w : World} {R : Ending → World → Prop} (h : Calls P f args w R) : CallsIn (WF ro) n P f args w R := by
  have := (callsIn_wide (n := n)).2 h
  cases ro with
  | none => exact this
  | some l => exact this
theorem rowsIn_WF {ro : Option Nat} {n : Nat} {P : Program} {f : String} {args : Array Value} {w : World} {R : Value → World → Prop} (h : Rows P f args w R) : RowsIn (WF ro) n P f args w R := by
  intro c cs _
  obtain ⟨v, w', r, s⟩ := h c cs
  exact ⟨v, w', r, stepsIn_wide.2 s⟩
section
variable {P : Program} {ops : Array Oper} {Q : Exit → Act → World → Prop} {n m : Nat} {ro : Option Nat} {a : Act} {w : World}
theorem op_in {o : Oper} {next : Act → World → Prop} (hd : ∀ c, o.op ≠ .defer c) (hQ : ¬ LetsOut Q) (h : o.wp P a w next Q) : o.wpIn (WF ro) m P a w next Q := by
  refine ⟨fun _ _ => trivial, ?_⟩
  rw [show (WF ro).round = ro from rfl, Oper.semAt_eq ro a.eval o hd]
  unfold Oper.wp at h
  generalize (execOp a.eval o).run P w = r at h ⊢
  unfold Oper.upon at h
  split at h <;> first
    | exact h
    | exact h.elim
    | exact ⟨fun e => by simp [WF, Fence.wide] at e, callsIn_WF (h.mono fun e w' he => by cases e <;> first | exact he | exact (hQ he).elim)⟩
    | exact ⟨fun e => by simp [WF, Fence.wide] at e, rowsIn_WF h⟩
def noDefer : List Oper → Bool
  | [] => true
  | o :: l => (match o.op with | .defer _ => false | _ => true) && noDefer l
def QT (F : Fence) (m : Nat) (P : Program) (ops : Array Oper) (Q : Exit → Act → World → Prop) (rest : List Oper) : Exit → Act → World → Prop
  | .normal, a, w => wpListIn F m P ops Q rest a w
  | .outgrown, _, _ => False
  | e, a, w => Q e a w
theorem list_in {rest : List Oper} : ∀ (pre : List Oper) (a : Act) (w : World), noDefer pre = true → wpList P ops (QT (WF ro) m P ops Q rest) pre a w → wpListIn (WF ro) m P ops Q (pre ++ rest) a w
  | [], a, w, _, h => h
  | o :: pre, a, w, hd, h => by
    simp only [noDefer, Bool.and_eq_true] at hd
    have hd1 : ∀ c, o.op ≠ .defer c := fun c e => by rw [e] at hd; simp at hd
    have hl : ¬ LetsOut (QT (WF ro) m P ops Q rest) := fun ⟨_, _, h⟩ => h
    unfold wpList at h
    show wpListIn (WF ro) m P ops Q (o :: (pre ++ rest)) a w
    unfold wpListIn
    by_cases hw : Region.wanted o (yielded ops a.tmps)
    · rw [if_pos hw] at h ⊢
      rcases h with h | ⟨_, h⟩
      · have := op_in (ro := ro) (m := m) hd1 hl h
        refine ⟨this.1, ?_⟩
        have h2 := this.2
        generalize (o.semAt (WF ro).round a.eval).run P w = r at h2 ⊢
        unfold Oper.uponIn at h2 ⊢
        split at h2 <;> first
          | exact list_in pre _ _ hd.2 h2
          | (refine ⟨h2.1, h2.2.mono fun e w' he => ?_⟩; cases e <;> first | exact list_in pre _ _ hd.2 he | exact he | exact (hl he).elim)
          | exact ⟨h2.1, h2.2.mono fun e w' he => list_in pre _ _ hd.2 he⟩
          | (refine ⟨h2.1, h2.2.1, fun c cs hr => ?_⟩; obtain ⟨e, w', he, hs⟩ := h2.2.2 c cs hr; refine ⟨e, w', ?_, hs⟩; cases e <;> first | exact list_in pre _ _ hd.2 he | exact he | exact (hl he).elim)
          | exact h2
      · exact (hl h).elim
    · rw [if_neg hw] at h ⊢
      exact ⟨fun _ _ => trivial, list_in pre _ _ hd.2 h⟩
end
def Yd (P : Program) (l : Nat) (args : List Value) (S : List Asn) (V : Value → List Asn → Prop) : Prop :=
  ∀ g w, St g w S → ∃ fn tmps assign body, (Instr.yield l args.toArray).run P w = .ok (.round l fn tmps assign body) w ∧
    RoundIn (WF none) 0 P l fn tmps assign body w fun e w' => ∃ v L', e = .returned v ∧ V v L' ∧ St g w' L'
theorem Yd.calls {P : Program} {l : Nat} {args : List Value} {S M L : List Asn} {V : Value → List Asn → Prop} {g : Gh} {w : World} (ks : List Nat) (h : Yd P l args S V) (H : St g w L) (hk : pick ks L = some (S, M)) :
    ∃ fn tmps assign body, (Instr.yield l args.toArray).run P w = .ok (.round l fn tmps assign body) w ∧
      RoundIn (WF none) 0 P l fn tmps assign body w fun e w' => ∃ v L', e = .returned v ∧ V v L' ∧ St g w' (L' ++ M) := by
  obtain ⟨F, hF, hb, hf, he⟩ := St.pick ks H hk
  obtain ⟨F1, F2, h1, h2, hd, hu⟩ := hF.split
  obtain ⟨fn, tmps, assign, body, hr, hR⟩ := h ⟨w, F1⟩ w (St.start h1 (fun b x => hb b ((hu b).2 (.inl x))))
  exact ⟨fn, tmps, assign, body, hr, hR.mono fun e w' ⟨v, L', e', hv, hS⟩ => ⟨v, L', e', hv, frame_core h2 hd hu hb hf he hS⟩⟩
section
variable {P : Program} {ops : Array Oper} {Q : Exit → Act → World → Prop} {rest : List Oper} {n d ty l : Nat} {pos : String} {af : Array Edge} {gd : Option (Nat × Bool)} {ρ : Env} {ds : List Deferred} {w : World} {g : Gh} {L S M : List Asn}
variable {fv : Operand} {xs : List Operand} {ats : Array TypeId} {args : List Value} {V : Value → List Asn → Prop}
theorem run_callY {dst : Option Tmp} {fn : FuncId} {tmps : Array Value} {assign body : Code} (hf : ev n ρ fv = some (.func (.yield l) #[] #[])) (ha : evl n ρ xs = some args)
    (hr : (Instr.yield l args.toArray).run P w = .ok (.round l fn tmps assign body) w) :
    (execOp (mk n ρ ds).eval ⟨dst, .call { callee := .value fv, args := xs.toArray, argTypes := ats }, ty, pos, af, gd⟩).run P w = .ok (.round l fn tmps assign body) w := by
  simp only [execOp, resolve, mk_eval hf, Deferred.ofValue, Sem.run_bind, Sem.run_pure, Result.andThen_ok, invoke, List.map_toArray, mk_evl ha, List.append_toArray, List.nil_append, List.append_nil, Array.empty_append, Array.append_empty]
  exact hr
theorem xyd (ks : List Nat) (H : St g w L) (c : Yd P l args S V) (hf : ev n ρ fv = some (.func (.yield l) #[] #[])) (ha : evl n ρ xs = some args) (hk : pick ks L = some (S, M))
    (hw : ∀ {op : Op}, Region.wanted ⟨some d, op, ty, pos, af, gd⟩ (yielded ops (mk n ρ ds).tmps) = true)
    (h : ∀ v L' w', V v L' → St g w' (L' ++ M) → wpListIn (WF none) 0 P ops Q rest (mk n (upd ρ d v) ds) w') :
    wpListIn (WF none) 0 P ops Q (⟨some d, .call { callee := .value fv, args := xs.toArray, argTypes := ats }, ty, pos, af, gd⟩ :: rest) (mk n ρ ds) w := by
  obtain ⟨fn, tmps, assign, body, hr, hR⟩ := c.calls ks H hk
  unfold wpListIn
  rw [if_pos hw]
  refine ⟨fun _ _ => trivial, ?_⟩
  rw [show (WF none).round = none from rfl, Oper.semAt_none, run_callY hf ha hr, Oper.uponIn_round]
  refine ⟨fun e => by simp [WF, Fence.wide] at e, hR.mono fun e w' ⟨v, L', e', hv, hS⟩ => ?_⟩
  subst e'
  show wpListIn _ _ P ops Q rest ((mk n ρ ds).put (some d) v) w'
  rw [mk_put]; exact h v L' w' hv hS
theorem region_in {id : Nat} {l : List Oper} {a : Act} (h : wpListIn (WF none) 0 P l.toArray Q l a w) : (Code.region id l.toArray false).wp P Q a w :=
  (wpIn_wide (n := 0)).1 (wpIn_region_lit h)
end
section
variable {P : Program} {ops : Array Oper} {Q : Exit → Act → World → Prop} {rest l pre : List Oper} {n d ty m : Nat} {ro : Option Nat} {pos : String} {af : Array Edge} {ρ : Env} {ds : List Deferred} {a : Act} {w : World} {g : Gh} {L S M : List Asn}
def splitO : Nat → List Oper → Option (List Oper × List Oper)
  | 0, l => some ([], l)
  | _ + 1, [] => none
  | k + 1, o :: l => match splitO k l with | some (a, b) => some (o :: a, b) | none => none
theorem splitO_eq : ∀ {k : Nat} {l a b : List Oper}, splitO k l = some (a, b) → l = a ++ b
  | 0, l, a, b, h => by simp only [splitO, Option.some.injEq, Prod.mk.injEq] at h; simp [← h.1, h.2]
  | k + 1, [], a, b, h => by cases h
  | k + 1, o :: l, a, b, h => by
    simp only [splitO] at h
    split at h
    · rename_i x y hh; simp only [Option.some.injEq, Prod.mk.injEq] at h; rw [← h.1, splitO_eq hh, h.2]; rfl
    · cases h
theorem list_at (k : Nat) (hs : splitO k l = some (pre, rest)) (hd : noDefer pre = true) (h : wpList P ops (QT (WF ro) m P ops Q rest) pre a w) : wpListIn (WF ro) m P ops Q l a w := by
  rw [splitO_eq hs]; exact list_in pre a w hd h
theorem list_all (hd : noDefer l = true) (h : wpList P ops (QT (WF ro) m P ops Q []) l a w) : wpListIn (WF ro) m P ops Q l a w := by
  rw [← List.append_nil l]; exact list_in l a w hd h
theorem qtn (h : wpListIn (WF ro) m P ops Q rest a w) : QT (WF ro) m P ops Q rest .normal a w := h
theorem qte (h : Q .normal a w) : QT (WF ro) m P ops Q [] .normal a w := h
theorem xydg {j t yl : Nat} {b b' : Bool} {fv : Operand} {xs : List Operand} {ats : Array TypeId} {args : List Value} {V : Value → List Asn → Prop} (ks : List Nat) (H : St g w L) (c : Yd P yl args S V) (hf : ev n ρ fv = some (.func (.yield yl) #[] #[])) (ha : evl n ρ xs = some args) (hk : pick ks L = some (S, M))
    (hj : guardTmp ops j = some t) (hv : ev n ρ (.tmp t) = some (.bool b')) (hb : (b' == b) = true)
    (h : ∀ v L' w', V v L' → St g w' (L' ++ M) → wpListIn (WF none) 0 P ops Q rest (mk n (upd ρ d v) ds) w') :
    wpListIn (WF none) 0 P ops Q (⟨some d, .call { callee := .value fv, args := xs.toArray, argTypes := ats }, ty, pos, af, some (j, b)⟩ :: rest) (mk n ρ ds) w :=
  xyd ks H c hf ha hk (by
    intro op
    have e := beq_iff_eq.1 hb; subst e
    simp [Region.wanted, yielded_mk hj hv]) h
end
def rfPost {α : Type} (g : Gh) (I : List α → Asn) (Ix : Code → List α → Asn) (xs : List α) : Exit → Act → World → Prop
  | .normal, _, w => St g w [I xs]
  | .ret, _, w => St g w [Ix .ret xs]
  | .exit id, _, w => St g w [Ix (.exit id) xs]
  | .goto t, _, w => St g w [Ix (.goto t) xs]
  | .panic _, _, _ => False
  | .outgrown, _, _ => False
def Its {α : Type} (P : Program) (gf : FuncId) (lb : List Value) (encs : α → List Value) (E : α → List Asn) (S Sp : List α → Prop) (N : Nat) (I : List α → Asn) (Ix : Code → List α → Asn) (C0 : List Asn) : Prop :=
  ∀ (l : Nat) (R : Asn) (Rx : Code → Asn),
    (∀ pre x, pre.length < N → Yd P l (encs x) (I pre :: R :: E x) fun v L' => (v = .bool true ∧ L' = [I (pre ++ [x]), R]) ∨ (v = .bool false ∧ ∃ c, L' = [Ix c (pre ++ [x]), Rx c])) →
    Fn P gf (.func (.yield l) #[] #[] :: lb) (I [] :: R :: C0) (Ret fun _ L' => (∃ xs, S xs ∧ L' = I xs :: R :: C0) ∨ (∃ c pre, Sp pre ∧ L' = Ix c pre :: Rx c :: C0))
section
variable {P : Program} {Q : Exit → Act → World → Prop} {n : Nat} {ρ : Env} {ds : List Deferred} {w : World} {g : Gh} {L S0 M : List Asn} {α : Type}
variable {gop : Operand} {ps : List Tmp} {assign body : Code} {gf : FuncId} {lb : List Value} {encs : α → List Value} {E : α → List Asn} {S Sp : List α → Prop} {N : Nat} {I : List α → Asn} {Ix : Code → List α → Asn} {C0 : List Asn}
theorem St.put {g : Gh} {w : World} {L : List Asn} {b : Nat} {o : Obj} (o' : Obj) (h : St g w (obj b o :: L)) : St g (w.putObj b o') (obj b o' :: L) := by
  obtain ⟨F, hF⟩ := h.nth (k := 0) rfl
  have hlt := (Array.getElem?_eq_some_iff.1 hF.2).1
  exact St.setObj h (by simp) (World.putObj_heap_same hlt) (fun k hk => World.putObj_heap_other hk) rfl rfl rfl
theorem Fn.callsA {P : Program} {f : FuncId} {args : List Value} {S M : List Asn} {R : Ending → List Asn → Prop} {g : Gh} {w : World}
    (h : Fn P f args S R) (H : St g w (S ++ M)) : Calls P f args.toArray w fun e w' => ∃ L', R e L' ∧ St g w' (L' ++ M) := by
  intro cs
  obtain ⟨F, hF, hb, hf, he⟩ := H
  obtain ⟨F1, F2, h1, h2, hd, hu⟩ := hF.split
  obtain ⟨e, w', fr, ⟨L', hR, hS⟩, rest⟩ := h.2 ⟨w, F1⟩ w (St.start h1 (fun b x => hb b ((hu b).2 (.inl x)))) cs
  exact ⟨e, w', fr, ⟨L', hR, frame_core h2 hd hu hb hf he hS⟩, rest⟩
theorem St.objAt {g : Gh} {w : World} {L : List Asn} {k b : Nat} {o : Obj} (h : St g w L) (hk : nthA L k = some (obj b o)) : w.heap[b]? = some o := by
  obtain ⟨F, hF⟩ := h.nth hk; exact hF.2
def updl (ρ : Env) : List Tmp → List Value → Env
  | p :: ps, v :: vs => updl (upd ρ p v) ps vs
  | _, _ => ρ
theorem fold_upl (ds : List Deferred) : ∀ (ps : List Tmp) (vs : List Value) (ρ : Env), (ps.zip vs).foldl (fun t (p, v) => t.setIfInBounds p v) (mk n ρ ds).tmps = (mk n (updl ρ ps vs) ds).tmps
  | [], vs, ρ => by simp [updl]
  | p :: ps, [], ρ => by simp [updl]
  | p :: ps, v :: vs, ρ => by
    have e : ((mk n ρ ds).tmps.setIfInBounds p v) = (mk n (upd ρ p v) ds).tmps := by rw [← mk_put]; rfl
    rw [List.zip_cons_cons, List.foldl_cons]
    show List.foldl _ ((mk n ρ ds).tmps.setIfInBounds p v) _ = _
    rw [e]; exact fold_upl ds ps vs (upd ρ p v)
theorem fold_upd (ds : List Deferred) (ps : List Tmp) (vs : List Value) (ρ : Env) : ((ps.toArray.zip vs.toArray).foldl (fun t (p, v) => t.setIfInBounds p v) (mk n ρ ds).tmps) = (mk n (updl ρ ps vs) ds).tmps := by
  rw [← fold_upl ds ps vs ρ, List.zip_toArray, ← Array.foldl_toList]
theorem xrf (ks : List Nat) (H : St g w L) (hk : pick ks L = some (I [] :: C0, M))
    (hg : ev n ρ gop = some (.func (.func gf) #[] lb.toArray)) (hit : Its P gf lb encs E S Sp N I Ix C0) (hps : ∀ x, (encs x).length = ps.length)
    (hround : ∀ (l : Nat) (pre : List α) (x : α) (w : World) (K : Act → World → Prop), pre.length < N →
      (∀ ρ', (∀ (g : Gh) (w : World), St g w (I pre :: E x) → body.wpIn (WF (some l)) 0 P (rfPost g I Ix (pre ++ [x])) (mk n ρ' []) w) → K (mk n ρ' []) w) →
      assign.wpIn (WF (some l)) 0 P (Exit.then K (fun _ _ _ => False)) (mk n (updl ρ ps (encs x)) []) w)
    (hdone : ∀ (D : Nat) (xs : List α) (w : World), S xs → St g w (obj D (.deferred (some [])) :: I xs :: (C0 ++ M)) → Q .normal (mk n ρ ({ target := .collected D, args := #[] } :: ds)) w)
    (hstop : ∀ (D : Nat) (c : Code) (pre : List α) (w : World), Sp pre → St g w (obj D (.deferred (some [])) :: Ix c pre :: (C0 ++ M)) → c.wp P Q (mk n ρ ({ target := .collected D, args := #[] } :: ds)) w) :
    (Code.rangeFunc gop ps.toArray assign body).wp P Q (mk n ρ ds) w := by
  refine (wpIn_wide (n := 0)).1 ?_
  refine wpIn_rangeFunc (fun fn _ => ?_)
  have H0 := St.pick ks H hk
  obtain ⟨b, hb⟩ : ∃ b, w.heap.size = b := ⟨_, rfl⟩
  obtain ⟨rec, hrec⟩ : ∃ rec : LoopState → Option Code → Loop, rec = fun st pe => { state := st, pending := pe, fn, tmps := (mk n ρ ds).tmps, params := ps.toArray, assign, body, defers := b } := ⟨_, rfl⟩
  have H1 := (H0.alloc (.deferred (some []))).alloc (.loop (rec .ready none))
  rw [World.size_alloc, hb] at H1
  let R : Asn := pak [obj (b + 1) (.loop (rec .ready none)), obj b (.deferred (some []))]
  let Rx : Code → Asn := fun c => pak [obj (b + 1) (.loop (rec .done (some c))), obj b (.deferred (some []))]
  have hY : ∀ pre x, pre.length < N → Yd P (b + 1) (encs x) (I pre :: R :: E x) fun v L' => (v = .bool true ∧ L' = [I (pre ++ [x]), R]) ∨ (v = .bool false ∧ ∃ c, L' = [Ix c (pre ++ [x]), Rx c]) := by
    intro pre x hlen g1 w1 K1
    have K2 : St g1 w1 (R :: I pre :: E x) := K1.perm (.swap _ _ _)
    have K3 : St g1 w1 (obj (b + 1) (.loop (rec .ready none)) :: obj b (.deferred (some [])) :: I pre :: E x) := K2.unpak
    have hl : w1.heap[b + 1]? = some (.loop (rec .ready none)) := K3.objAt (k := 0) rfl
    have hy := run_yield (P := P) (args := (encs x).toArray) hl (by rw [hrec]; simpa using hps x)
    rw [hrec] at hy
    refine ⟨fn, _, assign, body, hy, roundIn_of_wpIn trivial ?_⟩
    rw [show (({ tmps := (ps.toArray.zip (encs x).toArray).foldl (fun t (p, v) => t.setIfInBounds p v) (mk n ρ ds).tmps, defers := [] } : Act)) = mk n (updl ρ ps (encs x)) [] from by rw [fold_upd]; rfl]
    refine hround (b + 1) pre x w1 _ hlen (fun ρ' hbody => ⟨_, run_beginRound hl (by rw [hrec]), ?_⟩)
    have K4 := K3.put (.loop { rec .ready none with state := .busy })
    have K5 : St g1 _ ((I pre :: E x) ++ [obj (b + 1) (.loop { rec .ready none with state := .busy }), obj b (.deferred (some []))]) :=
      St.perm (List.perm_append_comm (l₁ := [obj (b + 1) (.loop { rec .ready none with state := .busy }), obj b (.deferred (some []))])) K4
    obtain ⟨F, hF, hbd, hf, he⟩ := K5
    obtain ⟨F1, F2, h1, h2, hd, hu⟩ := hF.split
    have hB := hbody ⟨_, F1⟩ _ (St.start h1 (fun b x => hbd b ((hu b).2 (.inl x))))
    have fin : ∀ (jump : Option Code) (W3 : World) (X : Asn), St ⟨w1.putObj (b + 1) (.loop { rec .ready none with state := .busy }), F1⟩ W3 [X] →
        ∃ W4, (Instr.endRound (b + 1) jump).run P W3 = .ok (.bool jump.isNone) W4 ∧ St g1 W4 [X, pak [obj (b + 1) (.loop (rec (if jump.isNone then .ready else .done) jump)), obj b (.deferred (some []))]] := by
      intro jump W3 X hX
      have K6 : St g1 W3 [X, obj (b + 1) (.loop { rec .ready none with state := .busy }), obj b (.deferred (some []))] := frame_core h2 hd hu hbd hf he hX
      have hl3 : W3.heap[b + 1]? = some (.loop { rec .ready none with state := .busy }) := K6.objAt (k := 1) rfl
      have hr : (Instr.endRound (b + 1) jump).run P W3 = .ok (.bool jump.isNone) (W3.putObj (b + 1) (.loop (rec (if jump.isNone then .ready else .done) jump))) := by
        have := run_endRound (P := P) jump hl3
        rw [hrec] at this ⊢; exact this
      refine ⟨_, hr, ?_⟩
      have K7 := (K6.perm (.swap _ _ _)).put (.loop (rec (if jump.isNone then .ready else .done) jump))
      have K8 : St g1 _ [obj (b + 1) (.loop (rec (if jump.isNone then .ready else .done) jump)), obj b (.deferred (some [])), X] := K7.perm ((List.Perm.swap _ _ _).cons _)
      exact (St.topak (M := [_, _]) K8).perm (.swap _ _ _)
    refine wpIn_mono hB ?_
    rintro e a3 W3 hp
    cases e with
    | normal =>
      obtain ⟨W4, hr, hS⟩ := fin none W3 _ hp
      exact ⟨_, _, hr, _, _, rfl, .inl ⟨rfl, rfl⟩, hS⟩
    | ret =>
      obtain ⟨W4, hr, hS⟩ := fin (some .ret) W3 _ hp
      exact ⟨_, _, hr, _, _, rfl, .inr ⟨rfl, .ret, rfl⟩, hS⟩
    | exit id =>
      obtain ⟨W4, hr, hS⟩ := fin (some (.exit id)) W3 _ hp
      exact ⟨_, _, hr, _, _, rfl, .inr ⟨rfl, .exit id, rfl⟩, hS⟩
    | goto t =>
      obtain ⟨W4, hr, hS⟩ := fin (some (.goto t)) W3 _ hp
      exact ⟨_, _, hr, _, _, rfl, .inr ⟨rfl, .goto t, rfl⟩, hS⟩
    | panic ch => exact hp.elim
    | outgrown => exact hp.elim
  have hc := hit (b + 1) R Rx hY
  refine ⟨b + 1, [{ target := .collected b, args := #[] }], (w.alloc (.deferred (some []))).alloc (.loop (rec .ready none)), { target := .fn (.func gf) lb.toArray, args := #[.func (.yield (b + 1)) #[] #[]] }, (w.alloc (.deferred (some []))).alloc (.loop (rec .ready none)), gf,
    #[.func (.yield (b + 1)) #[] #[]] ++ lb.toArray, (w.alloc (.deferred (some []))).alloc (.loop (rec .ready none)), ?_, ?_, fun _ _ => trivial, ?_, fun e => by simp [Fence.wide] at e, ?_⟩
  · subst hb; rw [hrec]; exact run_enterLoop_outer _ _ _ _ _
  · simp only [resolve, mk_eval hg]
    simp [go_sem]
  · have := hc.1
    simp only [invoke, go_sem]
    simpa using this _
  · have H2 : St g _ (R :: I [] :: (C0 ++ M)) := St.topak H1
    have H3 : St g _ ((I [] :: R :: C0) ++ M) := H2.perm (.swap _ _ _)
    have hcall := hc.callsA H3
    rw [show #[Value.func (.yield (b + 1)) #[] #[]] ++ lb.toArray = (Value.func (.yield (b + 1)) #[] #[] :: lb).toArray by simp]
    refine (callsIn_wide (n := 0)).2 (hcall.mono fun e w' ⟨L', ⟨v, e', hv⟩, H'⟩ => ?_)
    subst e'
    rcases hv with ⟨xs, hS, rfl⟩ | ⟨c, pre, hS, rfl⟩
    · have H4 : St g w' (R :: I xs :: (C0 ++ M)) := St.perm (.swap _ _ _) H'
      have H5 : St g w' (obj (b + 1) (.loop (rec .ready none)) :: obj b (.deferred (some [])) :: I xs :: (C0 ++ M)) := St.unpak H4
      have hl : w'.heap[b + 1]? = some (.loop (rec .ready none)) := H5.objAt (k := 0) rfl
      refine ⟨none, w'.putObj (b + 1) (.loop (rec .exhausted none)), ?_, hdone b xs _ hS (St.drop (St.put _ H5))⟩
      have := run_endLoop (P := P) hl (by rw [hrec]; simp); rw [hrec] at this; rw [hrec]; exact this
    · have H4 : St g w' (Rx c :: Ix c pre :: (C0 ++ M)) := St.perm (.swap _ _ _) H'
      have H5 : St g w' (obj (b + 1) (.loop (rec .done (some c))) :: obj b (.deferred (some [])) :: Ix c pre :: (C0 ++ M)) := St.unpak H4
      have hl : w'.heap[b + 1]? = some (.loop (rec .done (some c))) := H5.objAt (k := 0) rfl
      refine ⟨some c, w'.putObj (b + 1) (.loop (rec .exhausted (some c))), ?_, (wpIn_wide (n := 0)).2 (hstop b c pre _ hS (St.drop (St.put _ H5)))⟩
      have := run_endLoop (P := P) hl (by rw [hrec]; simp); rw [hrec] at this; rw [hrec]; exact this
end
section
variable {P : Program}
theorem Fn.introM {f : FuncId} {fn : Func} {c : Code} {args : List Value} {L : List Asn} {R : Ending → List Asn → Prop} {n : Nat}
    (hc : ∀ (xas : Array Value) w, (callFunc f xas).run P w = .ok (.enter f xas) w) (hf : P.funcs[f]? = some fn) (hb : fn.body = some c) (hn : fn.ntmps = n) (hl : Nat.ble args.length n = true)
    (h : ∀ g w (Q : Exit → Act → World → Prop), (∀ e a w, bodyPostM (WF none) 0 P fn (fun e w' => ∃ L', R e L' ∧ St g w' L') e a w → Q e a w) → St g w L → c.wp P Q (mk n (ini args) []) w) : Fn P f args L R := by
  subst hn
  exact ⟨fun w => hc _ w, fun g w H => (callsIn_wide (n := 0)).1 (callsIn_of_wp_marks hf hb trivial ((wpIn_wide (n := 0)).2 (by rw [mk_ini _ _ (Nat.le_of_ble_eq_true hl)]; exact h g w _ (fun _ _ _ => id) H)))⟩
theorem rM {n D : Nat} {ρ : Env} {w : World} {g : Gh} {fn : Func} {V : Value → List Asn → Prop} {L M : List Asn} (ks : List Nat) (hk : pick ks L = some ([obj D (.deferred (some []))], M)) (H : St g w L)
    (h : ∀ w, St g w M → bodyPost P fn (fun e w' => ∃ L', Ret V e L' ∧ St g w' L') .ret (mk n ρ []) w) :
    bodyPostM (WF none) 0 P fn (fun e w' => ∃ L', Ret V e L' ∧ St g w' L') .ret (mk n ρ [{ target := .collected D, args := #[] }]) w := by
  have H1 := St.pick ks H hk
  have hD : w.heap[D]? = some (.deferred (some [])) := H1.objAt (k := 0) rfl
  obtain ⟨_, v, hv, hR⟩ := h _ (St.drop (St.put (.deferred none) H1))
  exact ⟨by simp, .inl ⟨_, _, rfl, run_takeDeferred hD, v, hv, hR⟩⟩
end
def exv {α : Type} (p : α → Prop) (M : α → List Asn) : Asn where
  at_ w F := ∃ x, p x ∧ Sep w (M x) F
  keep := fun ⟨x, hp, h⟩ hk => ⟨x, hp, h.keep hk⟩
theorem St.unexv {g : Gh} {w : World} {α : Type} {p : α → Prop} {M : α → List Asn} {L : List Asn} : St g w (exv p M :: L) → ∃ x, p x ∧ St g w (M x ++ L)
  | ⟨F, ⟨_, _, ⟨x, hp, h1⟩, h2, hd, hu⟩, r⟩ => ⟨x, hp, F, Sep.append h1 h2 hd hu, r⟩
theorem St.toexv {g : Gh} {w : World} {α : Type} {p : α → Prop} {M : α → List Asn} {L : List Asn} (x : α) (hp : p x) : St g w (M x ++ L) → St g w (exv p M :: L)
  | ⟨F, hF, r⟩ => let ⟨F1, F2, h1, h2, hd, hu⟩ := hF.split; ⟨F, ⟨F1, F2, ⟨x, hp, h1⟩, h2, hd, hu⟩, r⟩
theorem Sees.exv {α : Type} {p : α → Prop} {M : α → List Asn} {B : Asn} (h : ∀ x, p x → ∃ k A, nthA (M x) k = some A ∧ Sees A B) : Sees (exv p M) B := by
  rintro w F ⟨x, hp, hS⟩
  obtain ⟨k, A, hk, hs⟩ := h x hp
  obtain ⟨F1, hA⟩ := hS.nth hk
  exact hs w F1 hA
theorem St.front' {g : Gh} {w : World} {L M : List Asn} (ks : List Nat) {S : List Asn} (h : St g w L) (hk : Go.Proofs.YtegllbmkkfnajaaGreatDoor.pick ks L = some (S, M)) {K : List Asn} (e : apA S M = some K) : St g w K := (h.pick ks hk).ap e
def Fa2 {α β : Type} (R : α → β → Prop) : List α → List β → Prop
  | [], [] => True
  | a :: l, b :: m => R a b ∧ Fa2 R l m
  | _, _ => False
theorem Fa2.mono {α β : Type} {R S : α → β → Prop} (h : ∀ a b, R a b → S a b) : ∀ {l : List α} {m : List β}, Fa2 R l m → Fa2 S l m
  | [], [], _ => True.intro
  | _ :: _, _ :: _, ⟨h1, h2⟩ => ⟨h _ _ h1, h2.mono h⟩
  | [], _ :: _, h => h.elim
  | _ :: _, [], h => h.elim
theorem Fa2.len {α β : Type} {R : α → β → Prop} : ∀ {l : List α} {m : List β}, Fa2 R l m → l.length = m.length
  | [], [], _ => rfl
  | _ :: _, _ :: _, ⟨_, h2⟩ => by simp [h2.len]
  | [], _ :: _, h => h.elim
  | _ :: _, [], h => h.elim
theorem Fa2.app {α β : Type} {R : α → β → Prop} : ∀ {l : List α} {m : List β} {l' : List α} {m' : List β}, Fa2 R l m → Fa2 R l' m' → Fa2 R (l ++ l') (m ++ m')
  | [], [], _, _, _, h => h
  | _ :: _, _ :: _, _, _, ⟨h1, h2⟩, h => ⟨h1, h2.app h⟩
  | [], _ :: _, _, _, h, _ => h.elim
  | _ :: _, [], _, _, h, _ => h.elim
theorem Fa2.get {α β : Type} {R : α → β → Prop} : ∀ {l : List α} {m : List β} (i : Nat) (hi : i < m.length), Fa2 R l m → ∃ a, l[i]? = some a ∧ R a m[i]
  | [], [], i, hi, _ => absurd hi (by simp)
  | a :: l, b :: m, 0, _, ⟨h1, _⟩ => ⟨a, rfl, h1⟩
  | a :: l, b :: m, i + 1, hi, ⟨_, h2⟩ => by
    obtain ⟨x, hx, hr⟩ := h2.get i (by simpa using hi)
    exact ⟨x, by simpa using hx, hr⟩
  | [], _ :: _, _, _, h => h.elim
  | _ :: _, [], _, _, h => h.elim
def BsV (A : Asn) (v : Value) (b : List UInt8) : Prop := ∃ ao cap, v = .slice ao b.length cap ∧ Bys A ao b ∧ b.length ≤ cap
def BsL (A : Asn) : List Value → List (List UInt8) → Prop := Fa2 (BsV A)
theorem BsV.sees {A B : Asn} {v : Value} {b : List UInt8} (h : BsV A v b) (hs : Sees B A) : BsV B v b := let ⟨ao, cap, h1, h2, h3⟩ := h; ⟨ao, cap, h1, Rd.sees h2 hs, h3⟩
theorem BsL.sees {A B : Asn} {v : List Value} {b : List (List UInt8)} (h : BsL A v b) (hs : Sees B A) : BsL B v b := Fa2.mono (fun _ _ h => BsV.sees h hs) h
section
variable {P : Program} {id m n : Nat} {l : List Oper} {ρ : Env} {ds : List Deferred} {Q : Exit → Act → World → Prop} {w : World} {g : Gh} {L L0 R0 : List Asn}
theorem drwk (ks : List Nat) (z : Nat) (hm : P.follows .mixedOrders = true) (hl : Nat.beq l.length m = true) (_hk : pick ks L = some (L0, R0)) (H : St g w L)
    (h : ∀ w', St g w' L → AnyH P l ds (fun _ _ => False) Q (fun w => St g w L0) z m (Array.replicate m false) (mk n ρ ds) w') : (Code.region id l.toArray true).wp P Q (mk n ρ ds) w := drw _ _ z hm hl (fun _ _ _ _ h => h.elim) H h
end
end Go.Proofs.YtegllbmkkfnajaaGreatDoor
end
section
namespace Go.Proofs.YtegllbmkkfnajaaGreatDoor
open Go Go.Proofs
attribute [local irreducible] Go.wpList Go.Code.wp St Fn mk
set_option maxRecDepth 20000
def acctApply (a : Acct) (r : Rec) : Acct :=
  if r.kind = 1 then { a with cap := r.n }
  else if r.kind = 2 then { a with bits := r.bits }
  else if r.kind = 3 then { a with leases := a.leases ++ [⟨r.lease, r.n⟩] }
  else if r.kind = 4 then { a with leases := a.leases.eraseIdx (findI (isId r.lease) a.leases).toNat, used := padd a.used r.n }
  else if r.kind = 5 then { a with closed := a.closed ++ [stmtOf a], period := a.period + 1, used := 0 }
  else a
def acctZ : List Value := [.string (str []), .int .u64 0, .int .u64 0, .int .u64 0, .int .u64 0, .slice none 0 0, .slice none 0 0]
def acctR (A : Asn) (a : Acct) (r : Rec) (v : Value) (L : List Asn) : Prop :=
  if acctCheck a r = 0 then ∃ lo' lc' co' cc', v = .tuple #[.agg (acctV (acctApply a r) lo' lc' co' cc').toArray, .int .i64 0] ∧
    L = [own lo' lc' leaseT 2 (acctApply a r).leases.length (leasesV (acctApply a r).leases), own co' cc' stmtT 6 (acctApply a r).closed.length (closedV (acctApply a r).closed), A]
  else v = .tuple #[.agg acctZ.toArray, .int .i64 (acctCheck a r)] ∧ L = [A]
def applyC (A : Asn) (a : Acct) (b7 b4 : Nat) (lo : Option Addr) (lc : Nat) (co : Option Addr) (cc : Nat) : List Asn :=
  [blk b7 (acctV a lo lc co cc) acctT, own lo lc leaseT 2 a.leases.length (leasesV a.leases), own co cc stmtT 6 a.closed.length (closedV a.closed), A, blk b4 acctZ acctT]
theorem acctCheck_settle {a : Acct} {r : Rec} (h : acctCheck a r = 0) (hk : r.kind = 4) : ¬ findI (isId r.lease) a.leases < 0 := by
  intro hf
  unfold acctCheck at h
  repeat' split at h
  all_goals omega
theorem acctCheck_close {a : Acct} {r : Rec} (h : acctCheck a r = 0) (hk : r.kind = 5) : a.period < 65536 := by
  unfold acctCheck at h
  repeat' split at h
  all_goals omega
theorem applyC_of {g : Gh} {w : World} {A : Asn} {a : Acct} {b7 b4 : Nat} {lo : Option Addr} {lc : Nat} {co : Option Addr} {cc n m : Nat} {cells lv cv : List Value}
    (h : St g w [blk b7 cells acctT, own lo lc leaseT 2 n lv, own co cc stmtT 6 m cv, A, blk b4 acctZ acctT]) (e : cells = acctV a lo lc co cc) (hn : n = a.leases.length) (hm : m = a.closed.length) (hl : lv = leasesV a.leases) (hc : cv = closedV a.closed) :
    St g w (applyC A a b7 b4 lo lc co cc) := by subst e hn hm hl hc; exact h
theorem c_aapply (A : Asn) (hT : Tab A) (a : Acct) (lo : Option Addr) (lc : Nat) (co : Option Addr) (cc : Nat) (r : Rec) (ha : a.ok) (hnl : a.leases.length < 1099511627776) (hnc : a.closed.length < 1099511627776) (hrk : r.ok) (hr : AcctR A a lo lc co cc) :
    Fn Tryz.prog 80 [.agg (acctV a lo lc co cc).toArray, .agg (recV r).toArray] [A] (Ret (acctR A a r)) := by
  refine Fn.intro Tryz.call80 Tryz.func80 rfl Tryz.ntmps80 rfl ?_; intro g w Q hQ H
  refine sq ?_; intro K1 hK1; refine wp_region_lit ?_; refine xbx H rfl rfl ?_; intro b2 w H; refine xbx H rfl rfl ?_; intro b3 w H; refine xal H ?_; intro b4 w H
  refine xas rfl ?_; refine wpList_nil ?_; refine tn ?_; refine hK1 _ _ ?_; clear hK1 K1; refine sq ?_; intro K2 hK2; refine sq ?_; intro K3 hK3
  refine wp_region_lit ?_
  refine xldab 2 H rfl rfl rfl rfl ?_
  refine xldab 1 H rfl rfl rfl rfl ?_
  refine xc [3] H ((c_acheck A a lo lc co cc r ha hrk hr)) rfl rfl rfl rfl rfl ?_; rintro _ _ w ⟨rfl, rfl⟩ H; replace H := H.ap rfl
  refine xas rfl ?_; refine wpList_nil ?_; refine tn ?_; refine hK3 _ _ ?_; clear hK3 K3; refine sq ?_; intro K4 hK4; refine wp_region_lit ?_; refine xmv rfl ?_
  refine xne rfl rfl ?_; refine wpList_nil ?_; refine tn ?_; refine hK4 _ _ ?_; clear hK4 K4
  refine if_ rfl (fun h0 => ?_) (fun h0 => ?_)
  · have h0 : ¬ acctCheck a r = 0 := by simpa using h0
    refine sq ?_; intro K5 hK5; refine wp_region_lit ?_; refine xbu rfl ?_; refine xmv rfl ?_
    (refine xsta 1 H rfl rfl rfl rfl rfl rfl ?_; intro w H)
    refine xas rfl ?_; refine wpList_nil ?_; refine tn ?_; refine hK5 _ _ ?_; clear hK5 K5; refine wp_ret ?_; refine tr ?_; clear hK2 K2
    refine hQ _ _ _ ?_
    refine rca1 0 [1] rfl rfl rfl H rfl (blk_cells (k := 7) rfl rfl) rfl rfl ?_
    unfold acctR
    rw [if_neg h0]; exact ⟨rfl, rfl⟩
  · have h0 : acctCheck a r = 0 := by simpa using h0
    refine wp_skip ?_; refine tn ?_; refine hK2 _ _ ?_; clear hK2 K2; refine sq ?_; intro K5 hK5; refine wp_region_lit ?_
    refine xldab 3 H rfl rfl rfl rfl ?_
    refine xc [0] H ((c_aclone A a lo lc co cc ha.nl ha.nc hr)) rfl rfl rfl rfl rfl ?_; rintro _ _ w ⟨lo1, lc1, co1, cc1, rfl, rfl⟩ H; replace H := H.ap rfl
    refine xal H ?_; intro b7 w H
    (refine xsta 0 H rfl rfl rfl rfl rfl rfl ?_; intro w H)
    refine wpList_nil ?_; refine tn ?_; refine hK5 _ _ ?_; clear hK5 K5; refine sq ?_; intro K6 hK6; refine sq ?_; intro K7 hK7; refine wp_region_lit ?_
    refine xfa rfl ?_
    refine xldb 5 H rfl rfl rfl ?_
    refine wpList_nil ?_; refine tn ?_; refine hK7 _ _ ?_; clear hK7 K7
    refine cutK4 (g := g) (α := Option Addr) (β := Nat) (γ := Option Addr) (δ := Nat) (fun lo2 lc2 co2 cc2 => [(4, .pointer (some ⟨b4, 0, none⟩)), (7, .pointer (some ⟨b7, 0, none⟩))]) (fun lo2 lc2 co2 cc2 => applyC A (acctApply a r) b7 b4 lo2 lc2 co2 cc2) (fun lo2 lc2 co2 cc2 => True) (fun K8 hK8 => ?_) (fun lo2 lc2 co2 cc2 ρ w hI H => ?_)
    · refine wp_block ?_; refine sq ?_; intro K9 hK9; refine wp_region_lit ?_; refine xeq rfl rfl ?_; refine xas rfl ?_; refine wpList_nil ?_
      refine tn ?_; refine hK9 _ _ ?_; clear hK9 K9
      refine if_ rfl (fun k1 => ?_) (fun k1 => ?_)
      · have k1 : r.kind = 1 := by simpa using k1
        have e : acctApply a r = { a with cap := r.n } := by unfold acctApply; rw [if_pos k1]
        refine wp_region_lit ?_; refine xfa rfl ?_
        refine xldb 5 H rfl rfl rfl ?_
        refine xfa rfl ?_
        (refine xst 0 H rfl rfl rfl rfl rfl ?_; intro w H)
        refine wpList_nil ?_; refine bn ?_
        replace H : St g w (applyC A (acctApply a r) b7 b4 lo1 lc1 co1 cc1) := by rw [e]; exact H.keeps [0, 0, 0, 0, 0] rfl
        refine tn ?_; refine hK8 _ _ (lo1) (lc1) (co1) (cc1) ⟨rfl, rfl, True.intro⟩ ?_ H
        trivial
      · have k1 : ¬ r.kind = 1 := by simpa using k1
        refine sq ?_; intro K10 hK10; refine wp_region_lit ?_; refine xeq rfl rfl ?_; refine xas rfl ?_; refine wpList_nil ?_
        refine tn ?_; refine hK10 _ _ ?_; clear hK10 K10
        refine if_ rfl (fun k2 => ?_) (fun k2 => ?_)
        · have k2 : r.kind = 2 := by simpa using k2
          have e : acctApply a r = { a with bits := r.bits } := by unfold acctApply; rw [if_neg k1, if_pos k2]
          refine wp_region_lit ?_; refine xfa rfl ?_
          refine xldb 5 H rfl rfl rfl ?_
          refine xfa rfl ?_
          (refine xst 0 H rfl rfl rfl rfl rfl ?_; intro w H)
          refine wpList_nil ?_; refine bn ?_
          replace H : St g w (applyC A (acctApply a r) b7 b4 lo1 lc1 co1 cc1) := by rw [e]; exact H.keeps [0, 0, 0, 0, 0] rfl
          refine tn ?_; refine hK8 _ _ (lo1) (lc1) (co1) (cc1) ⟨rfl, rfl, True.intro⟩ ?_ H
          trivial
        · have k2 : ¬ r.kind = 2 := by simpa using k2
          refine sq ?_; intro K11 hK11; refine wp_region_lit ?_; refine xeq rfl rfl ?_; refine xas rfl ?_; refine wpList_nil ?_
          refine tn ?_; refine hK11 _ _ ?_; clear hK11 K11
          refine if_ rfl (fun k3 => ?_) (fun k3 => ?_)
          · have k3 : r.kind = 3 := by simpa using k3
            have e : acctApply a r = { a with leases := a.leases ++ [⟨r.lease, r.n⟩] } := by unfold acctApply; rw [if_neg k1, if_neg k2, if_pos k3]
            refine wp_region_lit ?_; refine xfa rfl ?_
            refine xldb 0 H rfl rfl rfl ?_
            refine xfa rfl ?_
            refine xldb 5 H rfl rfl rfl ?_
            refine xfa rfl ?_
            refine xldb 5 H rfl rfl rfl ?_
            refine xbu rfl ?_; refine xbs H rfl rfl rfl (by simp [Value.cells] <;> rfl) rfl rfl ?_; intro b38 w H
            refine xap 2 H rfl rfl rfl (src_at (news := leaseV ⟨r.lease, r.n⟩) 0 H rfl (St.ownRd H) rfl) (leaseV_one _) (by omega) (by simp only [maxLen]; omega) ?_; intro ao39 cap39 w H hn39
            refine xfa rfl ?_
            (refine xst 2 H rfl rfl rfl rfl rfl ?_; intro w H)
            refine wpList_nil ?_; refine bn ?_
            replace H : St g w (applyC A (acctApply a r) b7 b4 ao39 cap39 co1 cc1) := by rw [e]; exact applyC_of (H.keeps [0, 0, 1, 1, 1] rfl) (by simp [acctV]) (by simp) rfl (by simp [leasesV]) rfl
            refine tn ?_; refine hK8 _ _ (ao39) (cap39) (co1) (cc1) ⟨rfl, rfl, True.intro⟩ ?_ H
            trivial
          · have k3 : ¬ r.kind = 3 := by simpa using k3
            refine sq ?_; intro K12 hK12; refine wp_region_lit ?_; refine xeq rfl rfl ?_; refine xas rfl ?_; refine wpList_nil ?_
            refine tn ?_; refine hK12 _ _ ?_; clear hK12 K12
            refine if_ rfl (fun k4 => ?_) (fun k4 => ?_)
            · have k4 : r.kind = 4 := by simpa using k4
              have e : acctApply a r = { a with leases := a.leases.eraseIdx (findI (isId r.lease) a.leases).toNat, used := padd a.used r.n } := by unfold acctApply; rw [if_neg k1, if_neg k2, if_neg k3, if_pos k4]
              have hf := acctCheck_settle h0 k4
              obtain ⟨k, hk, hkl⟩ := findI_lt hf
              have hlc := (H.front 1 rfl).ownLen
              refine sq ?_; intro K13 hK13; refine drws (m := 11) 10 rfl rfl H ?_; clear H; intro w H; refine dt' 0 rfl (by kernel_rfl) H (yfa rfl) ?_
              refine dt 1 rfl (by kernel_rfl) H (zldb 0 rfl rfl rfl) ?_
              refine dt' 2 rfl (by kernel_rfl) H (yfa rfl) ?_
              refine dt 3 rfl (by kernel_rfl) H (zldb 0 rfl rfl rfl) ?_
              refine dt' 4 rfl (by kernel_rfl) H (yfa rfl) ?_
              refine dt 5 rfl (by kernel_rfl) H (zldb 5 rfl rfl rfl) ?_
              refine do1 6 rfl (by kernel_rfl) ?_; intro K14 hK14
              refine xc [] H ((c_numb r.lease)) rfl rfl rfl rfl rfl ?_; rintro _ _ w ⟨b0, rfl, rfl⟩ H; replace H := H.ap rfl
              refine wpList_nil ?_; refine tn ?_; refine hK14 _ _ (fun _ => H.drop) ?_; clear hK14 K14; refine do1 7 rfl (by kernel_rfl) ?_; intro K15 hK15
              refine xc [2, 0] H ((c_find (own lo1 lc1 leaseT 2 a.leases.length (leasesV a.leases)) [blk b0 [.int .u64 r.lease] 22] (isId r.lease) 146 [.pointer (some ⟨b0, 0, none⟩)] a.leases lo1 lc1 ha.nl (H.front 2 rfl).ownRd (fun x _ => c_numb1 _ b0 r.lease x))) rfl rfl rfl rfl rfl ?_; rintro _ _ w ⟨rfl, rfl⟩ H; replace H := H.ap rfl
              replace H := H.keeps [2, 0, 1, 1, 1, 1, 1] rfl
              rw [hk]
              refine wpList_nil ?_; refine tn ?_; refine hK15 _ _ (fun _ => H) ?_; clear hK15 K15; refine do1 8 rfl (by kernel_rfl) ?_; intro K16 hK16
              refine xc [1] H ((c_without (own lo1 lc1 leaseT 2 a.leases.length (leasesV a.leases)) a.leases lo1 lc1 k hkl ha.nl (H.front 1 rfl).ownRd hlc.2)) rfl rfl rfl rfl rfl ?_; rintro _ _ w ⟨lo2, lc2, rfl, rfl⟩ H; replace H := H.ap rfl
              refine wpList_nil ?_; refine tn ?_; refine hK16 _ _ (fun _ => (H.keeps [2, 1, 1, 1, 1, 1, 1] rfl)) ?_; clear hK16 K16
              refine dt' 9 rfl (by kernel_rfl) (H.keeps [2, 1, 1, 1, 1, 1, 1] rfl) (yfa rfl) ?_; refine do1 10 rfl (by kernel_rfl) ?_; intro K17 hK17
              (refine xst 2 H rfl rfl rfl rfl rfl ?_; intro w H)
              refine wpList_nil ?_; refine tn ?_; refine hK17 _ _ (fun h => absurd rfl h) ?_; clear hK17 K17; refine dd (by kernel_rfl) ?_
              refine tn ?_; refine hK13 _ _ ?_; clear hK13 K13; refine wp_region_lit ?_; refine xfa rfl ?_
              refine xldb 0 H rfl rfl rfl ?_
              refine xfa rfl ?_
              refine xldb 6 H rfl rfl rfl ?_
              refine xc [] H ((c_padd a.used r.n ha.used hrk.n)) rfl rfl rfl rfl rfl ?_; rintro _ _ w ⟨rfl, rfl⟩ H; replace H := H.ap rfl
              refine xfa rfl ?_
              (refine xst 0 H rfl rfl rfl rfl rfl ?_; intro w H)
              refine wpList_nil ?_; refine bn ?_
              replace H : St g w (applyC A (acctApply a r) b7 b4 lo2 lc2 co1 cc1) := by
                rw [e]; exact applyC_of (H.keeps [0, 0, 1, 1, 1] rfl) (by simp [acctV, hk]) (by simp [hk]) rfl (by simp [hk]) rfl
              refine tn ?_; refine hK8 _ _ (lo2) (lc2) (co1) (cc1) ⟨rfl, rfl, True.intro⟩ ?_ H
              trivial
            · have k4 : ¬ r.kind = 4 := by simpa using k4
              refine sq ?_; intro K13 hK13; refine wp_region_lit ?_; refine xeq rfl rfl ?_; refine xas rfl ?_; refine wpList_nil ?_
              refine tn ?_; refine hK13 _ _ ?_; clear hK13 K13
              refine if_ rfl (fun k5 => ?_) (fun k5 => ?_)
              · have k5 : r.kind = 5 := by simpa using k5
                have e : acctApply a r = { a with closed := a.closed ++ [stmtOf a], period := a.period + 1, used := 0 } := by unfold acctApply; rw [if_neg k1, if_neg k2, if_neg k3, if_neg k4, if_pos k5]
                have hp := acctCheck_close h0 k5
                refine sq ?_; intro K14 hK14; refine drwk (m := 8) [0, 5] 7 rfl rfl rfl H ?_; clear H; intro w H
                refine dt' 0 rfl (by kernel_rfl) (H.keeps [0, 5] rfl) (yfa rfl) ?_
                refine dt 1 rfl (by kernel_rfl) (H.keeps [0, 5] rfl) (zldb 0 rfl rfl rfl) ?_
                refine dt 2 rfl (by kernel_rfl) (H.keeps [0, 5] rfl) (zldab 1 rfl rfl rfl rfl) ?_
                refine do1 3 rfl (by kernel_rfl) ?_; intro K15 hK15
                refine xc [3] H ((c_statement A hT a lo lc co cc ha)) rfl rfl rfl rfl rfl ?_; rintro _ _ w ⟨rfl, rfl⟩ H; replace H := H.ap rfl
                replace H := H.keeps [1, 1, 1, 0, 0, 0, 0] rfl
                refine wpList_nil ?_; refine tn ?_; refine hK15 _ _ (fun _ => (by exact H.keeps [0, 5] rfl)) ?_; clear hK15 K15
                refine do1 4 rfl (by kernel_rfl) ?_; intro K16 hK16; refine xbs H rfl rfl rfl (by simp [Value.cells] <;> rfl) rfl rfl ?_; intro b65 w H
                refine wpList_nil ?_; refine tn ?_; refine hK16 _ _ (fun _ => (by exact H.keeps [1, 6] rfl)) ?_; clear hK16 K16
                refine do1 5 rfl (by kernel_rfl) ?_; intro K17 hK17
                refine xap 3 H rfl rfl rfl (src_at (news := stmtV (stmtOf a)) 0 H rfl (St.ownRd H) rfl) (stmtV_one _) (by omega) (by simp only [maxLen]; omega) ?_; intro ao66 cap66 w H hn66
                refine wpList_nil ?_; refine tn ?_; refine hK17 _ _ (fun _ => (by exact H.keeps [2, 6] rfl)) ?_; clear hK17 K17
                refine dt' 6 rfl (by kernel_rfl) (by exact H.keeps [2, 6] rfl) (yfa rfl) ?_
                refine do1 7 rfl (by kernel_rfl) ?_; intro K18 hK18
                (refine xst 2 H rfl rfl rfl rfl rfl ?_; intro w H)
                refine wpList_nil ?_; refine tn ?_; refine hK18 _ _ (fun h => absurd rfl h) ?_; clear hK18 K18; refine dd (by kernel_rfl) ?_
                refine tn ?_; refine hK14 _ _ ?_; clear hK14 K14; refine sq ?_; intro K19 hK19; refine wp_region_lit ?_; refine xfa rfl ?_
                refine xldb 0 H rfl rfl rfl ?_
                refine xadn_u64 (b := 1) rfl rfl (by omega) ?_
                refine xfa rfl ?_
                (refine xst 0 H rfl rfl rfl rfl rfl ?_; intro w H)
                refine wpList_nil ?_; refine tn ?_; refine hK19 _ _ ?_; clear hK19 K19; refine wp_region_lit ?_; refine xfa rfl ?_
                (refine xst 0 H rfl rfl rfl rfl rfl ?_; intro w H)
                refine wpList_nil ?_; refine bn ?_
                replace H : St g w (applyC A (acctApply a r) b7 b4 lo1 lc1 ao66 cap66) := by
                  rw [e]; exact applyC_of (H.keeps [0, 2, 0, 1, 1] rfl) (by simp [acctV]) rfl (by simp) rfl (by simp [closedV])
                refine tn ?_; refine hK8 _ _ (lo1) (lc1) (ao66) (cap66) ⟨rfl, rfl, True.intro⟩ ?_ H
                trivial
              · have k5 : ¬ r.kind = 5 := by simpa using k5
                have e : acctApply a r = a := by unfold acctApply; rw [if_neg k1, if_neg k2, if_neg k3, if_neg k4, if_neg k5]
                refine wp_skip ?_; refine bn ?_
                replace H : St g w (applyC A (acctApply a r) b7 b4 lo1 lc1 co1 cc1) := by rw [e]; exact H.keeps [0, 0, 0, 0, 0] rfl
                refine tn ?_; refine hK8 _ _ (lo1) (lc1) (co1) (cc1) ⟨rfl, rfl, True.intro⟩ ?_ H
                trivial
    · unfold applyC at H
      refine hK6 _ _ ?_; clear hK6 K6; refine sq ?_; intro K9 hK9; refine wp_region_lit ?_
      refine xldab 0 H rfl rfl rfl rfl ?_
      (refine xsta 4 H rfl rfl rfl rfl rfl rfl ?_; intro w H)
      refine xas rfl ?_; refine wpList_nil ?_; refine tn ?_; refine hK9 _ _ ?_; clear hK9 K9; refine wp_ret ?_
      refine hQ _ _ _ ?_
      refine rca1 0 [2, 2, 2] rfl rfl rfl H rfl (blk_cells (k := 7) rfl rfl) rfl rfl ?_
      unfold acctR
      rw [if_pos h0]; exact ⟨_, _, _, _, rfl, rfl⟩
end Go.Proofs.YtegllbmkkfnajaaGreatDoor
end
section
namespace Go.Proofs.YtegllbmkkfnajaaGreatDoor
open Go Go.Proofs
attribute [local irreducible] Go.wpList Go.Code.wp St Fn mk
set_option maxRecDepth 20000
abbrev cmpB (a b : List UInt8) : Int := Lib.compareBytes a b
theorem c_cmpS (a b : List UInt8) : Fn Tryz.prog 104 [.string (str a), .string (str b)] [] (Ret fun v L => v = .int .i64 (cmpB a b) ∧ L = []) := by
  refine Fn.intro Tryz.call104 Tryz.func104 rfl Tryz.ntmps104 rfl ?_; intro g w Q hQ H
  refine sq ?_; intro K1 hK1; refine wp_region_lit ?_; refine xas rfl ?_; refine wpList_nil ?_; refine tn ?_; refine hK1 _ _ ?_; clear hK1 K1
  refine sq ?_; intro K2 hK2; refine wp_region_lit ?_; refine xmv rfl ?_; refine xmv rfl ?_
  refine xcext Tryz.func141 rfl rfl rfl rfl (fun w => Lib.run_compareString (str a) (str b) w) rfl rfl ?_
  refine xas rfl ?_; refine wpList_nil ?_; refine tn ?_; refine hK2 _ _ ?_; clear hK2 K2; refine wp_ret ?_
  refine hQ _ _ _ ?_; refine r1 rfl rfl H ?_
  exact ⟨rfl, rfl⟩
theorem c_strCmp (a b : List UInt8) : Fn Tryz.prog 74 [.string (str a), .string (str b)] [] (Ret fun v L => v = .int .i64 (cmpB a b) ∧ L = []) := by
  refine Fn.intro Tryz.call74 Tryz.func74 rfl Tryz.ntmps74 rfl ?_; intro g w Q hQ H
  refine sq ?_; intro K1 hK1; refine wp_region_lit ?_; refine xas rfl ?_; refine wpList_nil ?_; refine tn ?_; refine hK1 _ _ ?_; clear hK1 K1
  refine sq ?_; intro K2 hK2; refine wp_region_lit ?_; refine xmv rfl ?_; refine xmv rfl ?_
  refine xc [] H ((c_cmpS a b)) rfl rfl rfl rfl rfl ?_; rintro _ _ w ⟨rfl, rfl⟩ H; replace H := H.ap rfl
  refine xas rfl ?_; refine wpList_nil ?_; refine tn ?_; refine hK2 _ _ ?_; clear hK2 K2; refine wp_ret ?_
  refine hQ _ _ _ ?_; refine r1 rfl rfl H ?_
  exact ⟨rfl, rfl⟩
structure AcctP where
  a : Acct
  lo : Option Addr
  lc : Nat
  co : Option Addr
  cc : Nat
def AcctP.v (p : AcctP) : List Value := acctV p.a p.lo p.lc p.co p.cc
def AcctP.r (A : Asn) (p : AcctP) : Prop := AcctR A p.a p.lo p.lc p.co p.cc
theorem AcctP.len (p : AcctP) : p.v.length = 7 := rfl
theorem AcctP.one (p : AcctP) : ∀ v ∈ p.v, v.oneCell' = true := by intro v hv; simp [AcctP.v, acctV] at hv; rcases hv with rfl | rfl | rfl | rfl | rfl | rfl | rfl <;> rfl
abbrev acctsV (ps : List AcctP) : List Value := ps.flatMap AcctP.v
theorem c_place1 (p : AcctP) (s : List UInt8) : Fn Tryz.prog 73 [.agg p.v.toArray, .string (str s)] [] (Ret fun v L => v = .int .i64 (cmpB p.a.tenant s) ∧ L = []) := by
  unfold AcctP.v
  refine Fn.intro Tryz.call73 Tryz.func73 rfl Tryz.ntmps73 rfl ?_; intro g w Q hQ H
  refine sq ?_; intro K1 hK1; refine wp_region_lit ?_; refine xbx H rfl rfl ?_; intro b2 w H; refine xas rfl ?_; refine wpList_nil ?_
  refine tn ?_; refine hK1 _ _ ?_; clear hK1 K1; refine sq ?_; intro K2 hK2; refine wp_region_lit ?_; refine xfa rfl ?_
  refine xldb 0 H rfl rfl rfl ?_
  refine xmv rfl ?_
  refine xc [] H ((c_strCmp p.a.tenant s)) rfl rfl rfl rfl rfl ?_; rintro _ _ w ⟨rfl, rfl⟩ H; replace H := H.ap rfl
  refine xas rfl ?_; refine wpList_nil ?_; refine tn ?_; refine hK2 _ _ ?_; clear hK2 K2; refine wp_ret ?_
  replace H := H.keeps [] rfl
  refine hQ _ _ _ ?_; refine r1 rfl rfl H ?_
  exact ⟨rfl, rfl⟩
def bsF (lt : Nat → Bool) : Nat → Nat → Nat → Nat
  | 0, i, _ => i
  | n + 1, i, j => if i < j then (if lt ((i + j) / 2) then bsF lt n ((i + j) / 2 + 1) j else bsF lt n i ((i + j) / 2)) else i
abbrev accts (ps : List AcctP) : List Acct := ps.map AcctP.a
def tenAt (l : List Acct) (k : Nat) : List UInt8 := match l[k]? with | some a => a.tenant | none => []
def placeK (l : List Acct) (s : List UInt8) : Nat := bsF (fun k => decide (cmpB (tenAt l k) s < 0)) (l.length + 1) 0 l.length
def placeB (l : List Acct) (s : List UInt8) : Bool := decide (placeK l s < l.length) && decide (cmpB (tenAt l (placeK l s)) s = 0)
theorem placeB_lt {l : List Acct} {s : List UInt8} (h : placeB l s = true) : placeK l s < l.length := by unfold placeB at h; simp at h; exact h.1
theorem bsF_le (lt : Nat → Bool) : ∀ n i j, i ≤ j → bsF lt n i j ≤ j
  | 0, i, j, h => h
  | n + 1, i, j, h => by
    simp only [bsF]
    split
    · split
      · exact bsF_le lt n _ _ (by omega)
      · exact Nat.le_trans (bsF_le lt n _ _ (by omega)) (by omega)
    · exact h
theorem bsF_fuel (lt : Nat → Bool) : ∀ n m i j, j - i < n → j - i < m → bsF lt n i j = bsF lt m i j
  | 0, _, _, _, h, _ => absurd h (by omega)
  | _ + 1, 0, _, _, _, h => absurd h (by omega)
  | n + 1, m + 1, i, j, h1, h2 => by
    simp only [bsF]
    split
    · split
      · exact bsF_fuel lt n m _ _ (by omega) (by omega)
      · exact bsF_fuel lt n m _ _ (by omega) (by omega)
    · rfl
theorem c_bsf (A : Asn) (ps : List AcctP) (ao : Option Addr) (cap : Nat) (s : List UInt8) (hr : Rd A ao (acctsV ps)) (hl : ps.length ≤ 1099511627776) :
    Fn Tryz.prog 72 [.slice ao ps.length cap, .string (str s), .func (.func 73) #[] #[]] [A]
      (Ret fun v L => v = .tuple #[.int .i64 (placeK (accts ps) s), .bool (placeB (accts ps) s)] ∧ L = [A]) := by
  refine Fn.intro Tryz.call72 Tryz.func72 rfl Tryz.ntmps72 rfl ?_; intro g w Q hQ H
  refine sq ?_; intro K1 hK1; refine wp_region_lit ?_; refine xas rfl ?_; refine xas rfl ?_; refine wpList_nil ?_; refine tn ?_; refine hK1 _ _ ?_; clear hK1 K1
  refine sq ?_; intro K2 hK2; refine wp_region_lit ?_; refine xmv rfl ?_; refine xli rfl ?_; refine xas rfl ?_; refine wpList_nil ?_
  refine tn ?_; refine hK2 _ _ ?_; clear hK2 K2; refine sq ?_; intro K3 hK3; refine wp_region_lit ?_; refine xmv rfl ?_; refine xas rfl ?_; refine xas rfl ?_
  refine wpList_nil ?_; refine tn ?_; refine hK3 _ _ ?_; clear hK3 K3; refine sq ?_; intro K4 hK4; refine wp_block ?_
  refine lp2 (α := Nat) (β := Nat) (fun i j => [(0, .slice ao ps.length cap), (1, .string (str s)), (2, .func (.func 73) #[] #[]), (8, .int .i64 ps.length), (9, .int .i64 i), (10, .int .i64 j)]) (fun i j => [A]) (fun i j => i ≤ j ∧ j ≤ ps.length ∧ bsF (fun k => decide (cmpB (tenAt (accts ps) k) s < 0)) (ps.length + 1) i j = placeK (accts ps) s) (fun i j => j - i) (0) (ps.length) ⟨rfl, rfl, rfl, rfl, rfl, rfl, True.intro⟩ (⟨Nat.zero_le _, Nat.le_refl _, by simp [placeK]⟩) H ?_; intro i j ρ w hI H K5 hK5
  obtain ⟨h1, h2, h3⟩ := hI
  refine sq ?_; intro K6 hK6; refine sq ?_; intro K7 hK7; refine wp_region_lit ?_; refine xmv rfl ?_; refine xmv rfl ?_; refine xlt rfl rfl ?_
  refine wpList_nil ?_; refine tn ?_; refine hK7 _ _ ?_; clear hK7 K7
  refine if_ rfl (fun k1 => ?_) (fun k1 => ?_)
  · have k1 : i < j := by simpa using k1
    obtain ⟨h, hh⟩ : ∃ h, (i + j) / 2 = h := ⟨_, rfl⟩
    have hlt : h < ps.length := by omega
    have hg : ps[h]? = some ps[h] := List.getElem?_eq_getElem hlt
    have ht : tenAt (accts ps) h = ps[h].a.tenant := by simp [tenAt, hg]
    unfold bsF at h3
    rw [if_pos k1, hh] at h3
    simp only [ht] at h3
    generalize ps[h] = q at hg ht h3
    refine wp_skip ?_; refine tn ?_; refine hK6 _ _ ?_; clear hK6 K6; refine wp_block ?_; refine sq ?_; intro K8 hK8; refine wp_region_lit ?_; refine xmv rfl ?_
    refine xmv rfl ?_
    refine xadi rfl rfl (wi64 (by omega)) ?_
    refine xcvi rfl (wu64 (by omega)) ?_
    refine xsr_u64 (s := 1) rfl rfl (by omega) ?_
    refine xcvi rfl (wi64 (by omega)) ?_
    refine xas rfl ?_; refine wpList_nil ?_; refine tn ?_; refine hK8 _ _ ?_; clear hK8 K8; refine sq ?_; intro K9 hK9; refine wp_region_lit ?_; refine xmv rfl ?_
    refine xmv rfl ?_; refine xmv rfl ?_
    rw [show (i + j) >>> 1 = h by rw [Nat.shiftRight_eq_div_pow]; exact hh]
    refine xiar hr (flat_get AcctP.len hg) (by simp [AcctP.v, acctV]) hlt rfl rfl rfl ?_; intro b27 o27 hx27
    refine xlda 0 H rfl rfl hx27 rfl ?_
    refine xmv rfl ?_
    refine xc [] H ((c_place1 q s)) rfl rfl rfl rfl rfl ?_; rintro _ _ w ⟨rfl, rfl⟩ H; replace H := H.ap rfl
    refine xlt rfl rfl ?_; refine wpList_nil ?_; refine tn ?_; refine hK9 _ _ ?_; clear hK9 K9
    refine if_ rfl (fun k2 => ?_) (fun k2 => ?_)
    · have k2 : cmpB q.a.tenant s < 0 := by simpa using k2
      rw [if_pos (by simpa using k2)] at h3
      refine wp_region_lit ?_; refine xmv rfl ?_
      refine xadi rfl rfl (wi64 (by omega)) ?_
      refine xas rfl ?_; refine wpList_nil ?_; refine bn ?_
      refine tn ?_; refine hK5 _ _ (h + 1) (j) ⟨rfl, rfl, rfl, rfl, rfl, rfl, True.intro⟩ ?_ H ?_
      · refine ⟨by omega, h2, ?_⟩
        rw [← h3]; exact bsF_fuel _ _ _ _ _ (by omega) (by omega)
      · omega
    · have k2 : ¬ cmpB q.a.tenant s < 0 := by simpa using k2
      rw [if_neg (by simpa using k2)] at h3
      refine wp_region_lit ?_; refine xmv rfl ?_; refine xas rfl ?_; refine wpList_nil ?_; refine bn ?_
      refine tn ?_; refine hK5 _ _ (i) (h) ⟨rfl, rfl, rfl, rfl, rfl, rfl, True.intro⟩ ?_ H ?_
      · refine ⟨by omega, by omega, ?_⟩
        rw [← h3]; exact bsF_fuel _ _ _ _ _ (by omega) (by omega)
      · omega
  · have k1 : ¬ i < j := by simpa using k1
    have hij : i = j := by omega
    have hk : placeK (accts ps) s = i := by rw [← h3]; unfold bsF; rw [if_neg k1]
    refine wp_exit ?_; refine te ?_; clear hK6 K6; refine te ?_; clear hK5 K5; refine be ?_; refine tn ?_; refine hK4 _ _ ?_; clear hK4 K4
    refine sq ?_; intro K8 hK8; refine wp_region_lit ?_; refine xmv rfl ?_; refine xmv rfl ?_; refine xmv rfl ?_; refine xlt rfl rfl ?_; refine xmv rfl ?_
    refine gsp 39 rfl (fun k3 => ?_) (fun k3 => ?_)
    · have k3 : i < ps.length := by simpa using k3
      have hg : ps[i]? = some ps[i] := List.getElem?_eq_getElem k3
      have ht : tenAt (accts ps) i = ps[i].a.tenant := by simp [tenAt, hg]
      generalize ps[i] = q at hg ht
      refine xgy rfl rfl rfl ?_; refine xmv rfl ?_; refine xgy rfl rfl rfl ?_; refine xmv rfl ?_; refine xgy rfl rfl rfl ?_; refine xmv rfl ?_
      refine xgy rfl rfl rfl ?_
      refine xiar hr (flat_get AcctP.len hg) (by simp [AcctP.v, acctV]) k3 rfl rfl rfl ?_; intro b43 o43 hx43
      refine xgy rfl rfl rfl ?_
      refine xlda 0 H rfl rfl hx43 rfl ?_
      refine xgy rfl rfl rfl ?_; refine xmv rfl ?_; refine xgy rfl rfl rfl ?_
      refine xc [] H ((c_place1 q s)) rfl rfl rfl rfl rfl ?_; rintro _ _ w ⟨rfl, rfl⟩ H; replace H := H.ap rfl
      refine xgy rfl rfl rfl ?_; refine xeq rfl rfl ?_; refine xpkt rfl rfl ?_; refine xas rfl ?_; refine xas rfl ?_; refine wpList_nil ?_
      refine tn ?_; refine hK8 _ _ ?_; clear hK8 K8; refine wp_ret ?_
      refine hQ _ _ _ ?_; refine r2 rfl rfl rfl H ?_
      simp [placeB, hk, k3, ht]; rfl
    · have k3 : ¬ i < ps.length := by simpa using k3
      refine xgn rfl rfl rfl ?_; refine xgn rfl rfl rfl ?_; refine xgn rfl rfl rfl ?_; refine xgn rfl rfl rfl ?_; refine xgn rfl rfl rfl ?_; refine xgn rfl rfl rfl ?_
      refine xgn rfl rfl rfl ?_; refine xgn rfl rfl rfl ?_; refine xpkf rfl rfl ?_; refine xas rfl ?_; refine xas rfl ?_; refine wpList_nil ?_
      refine tn ?_; refine hK8 _ _ ?_; clear hK8 K8; refine wp_ret ?_
      refine hQ _ _ _ ?_; refine r2 rfl rfl rfl H ?_
      simp [placeB, hk, k3]
theorem c_place (A : Asn) (ps : List AcctP) (seq : Nat) (ao : Option Addr) (cap : Nat) (s : List UInt8) (hr : Rd A ao (acctsV ps)) (hl : ps.length ≤ 1099511627776) :
    Fn Tryz.prog 50 [.agg #[.int .u64 seq, .slice ao ps.length cap], .string (str s)] [A] (Ret fun v L => v = .tuple #[.int .i64 (placeK (accts ps) s), .bool (placeB (accts ps) s)] ∧ L = [A]) := by
  refine Fn.intro Tryz.call50 Tryz.func50 rfl Tryz.ntmps50 rfl ?_; intro g w Q hQ H
  refine sq ?_; intro K1 hK1; refine wp_region_lit ?_; refine xbx H rfl rfl ?_; intro b2 w H; refine xas rfl ?_; refine xas rfl ?_; refine wpList_nil ?_
  refine tn ?_; refine hK1 _ _ ?_; clear hK1 K1; refine sq ?_; intro K2 hK2; refine wp_region_lit ?_; refine xfa rfl ?_
  refine xldb 0 H rfl rfl rfl ?_
  refine xmv rfl ?_
  refine xc [1] H ((c_bsf A ps ao cap s hr hl)) rfl rfl rfl rfl rfl ?_; rintro _ _ w ⟨rfl, rfl⟩ H; replace H := H.ap rfl
  refine xex rfl rfl ?_; refine xex rfl rfl ?_; refine xas rfl ?_; refine xas rfl ?_; refine wpList_nil ?_; refine tn ?_; refine hK2 _ _ ?_; clear hK2 K2
  refine wp_ret ?_
  replace H := H.keeps [0] rfl
  refine hQ _ _ _ ?_; refine r2 rfl rfl rfl H ?_
  exact ⟨rfl, rfl⟩
end Go.Proofs.YtegllbmkkfnajaaGreatDoor
end
section
namespace Go.Proofs.YtegllbmkkfnajaaGreatDoor
open Go Go.Proofs
attribute [local irreducible] Go.wpList Go.Code.wp St Fn mk
set_option maxRecDepth 20000
structure Ledg where
  seq : Nat
  l : List Acct
deriving DecidableEq
def newA (t : List UInt8) : Acct := ⟨t, 0, 0, 0, 0, [], []⟩
theorem newA_ok (t : List UInt8) : (newA t).ok := ⟨by simp [newA], by simp [newA], by simp [newA], by simp [newA], by simp [newA], by simp [newA], by simp [newA], by simp [newA]⟩
def acctAt (l : List Acct) (k : Nat) : Acct := match l[k]? with | some a => a | none => newA []
def Ledg.find (l : Ledg) (t : List UInt8) : Acct := if placeB l.l t then acctAt l.l (placeK l.l t) else newA t
def ledgerCheck (l : Ledg) (r : Rec) : Int :=
  if recCheck r ≠ 0 then recCheck r
  else if r.seq ≠ (l.seq + 1) % 18446744073709551616 then 12
  else if placeB l.l r.tenant = true then acctCheck (l.find r.tenant) r
  else if 8 ≤ l.l.length then 15
  else acctCheck (l.find r.tenant) r
def AcctsR (A : Asn) (ps : List AcctP) : Prop := ∀ p ∈ ps, p.a.ok ∧ p.r A
theorem AcctsR.sees {A B : Asn} {ps : List AcctP} (h : AcctsR A ps) (hs : Sees B A) : AcctsR B ps := fun p hp => ⟨(h p hp).1, AcctR.sees (h p hp).2 hs⟩
structure LedR (A : Asn) (l : Ledg) (ps : List AcctP) (ao : Option Addr) (cap : Nat) : Prop where
  e : accts ps = l.l
  rd : Rd A ao (acctsV ps)
  ok : AcctsR A ps
  cap : ps.length ≤ cap
  len : ps.length ≤ 1099511627776
  seq : l.seq < 18446744073709551616
def ledV (l : Ledg) (ao : Option Addr) (cap : Nat) : List Value := [.int .u64 l.seq, .slice ao l.l.length cap]
abbrev ledT : Nat := 47
theorem LedR.sees {A B : Asn} {l : Ledg} {ps : List AcctP} {ao : Option Addr} {cap : Nat} (h : LedR A l ps ao cap) (hs : Sees B A) : LedR B l ps ao cap := ⟨h.e, h.rd.sees hs, h.ok.sees hs, h.cap, h.len, h.seq⟩
theorem LedR.n {A : Asn} {l : Ledg} {ps : List AcctP} {ao : Option Addr} {cap : Nat} (h : LedR A l ps ao cap) : ps.length = l.l.length := by rw [← h.e]; simp
theorem LedR.at {A : Asn} {l : Ledg} {ps : List AcctP} {ao : Option Addr} {cap : Nat} (h : LedR A l ps ao cap) {k : Nat} (hk : k < l.l.length) : ∃ p, ps[k]? = some p ∧ p.a = acctAt l.l k ∧ p.a.ok ∧ p.r A := by
  have hk2 : k < ps.length := by rw [h.n]; exact hk
  have hg : ps[k]? = some ps[k] := List.getElem?_eq_getElem hk2
  refine ⟨ps[k], hg, ?_, h.ok _ (List.mem_of_getElem? hg)⟩
  unfold acctAt; rw [← h.e, List.getElem?_map, hg]; rfl
theorem newA_r (A : Asn) (t : List UInt8) : AcctR A (newA t) none 0 none 0 := ⟨rfl, rfl, Nat.le_refl _, Nat.le_refl _⟩
theorem c_lcheck (A : Asn) (l : Ledg) (ps : List AcctP) (ao : Option Addr) (cap : Nat) (r : Rec) (hL : LedR A l ps ao cap) (hrk : r.ok) :
    Fn Tryz.prog 52 [.agg (ledV l ao cap).toArray, .agg (recV r).toArray] [A] (Ret fun v L => v = .int .i64 (ledgerCheck l r) ∧ L = [A]) := by
  have hn := hL.n
  have hp := c_place A ps l.seq ao cap r.tenant hL.rd hL.len
  rw [hn, hL.e] at hp
  unfold ledgerCheck Ledg.find
  refine Fn.intro Tryz.call52 Tryz.func52 rfl Tryz.ntmps52 rfl ?_; intro g w Q hQ H
  refine sq ?_; intro K1 hK1; refine wp_region_lit ?_; refine xbx H rfl rfl ?_; intro b2 w H; refine xbx H rfl rfl ?_; intro b3 w H; refine xas rfl ?_
  refine wpList_nil ?_; refine tn ?_; refine hK1 _ _ ?_; clear hK1 K1; refine sq ?_; intro K2 hK2; refine sq ?_; intro K3 hK3; refine wp_region_lit ?_
  refine xldab 0 H rfl rfl rfl rfl ?_
  refine xc [] H ((c_rcheck r hrk)) rfl rfl rfl rfl rfl ?_; rintro _ _ w ⟨rfl, rfl⟩ H; replace H := H.ap rfl
  refine xas rfl ?_; refine wpList_nil ?_; refine tn ?_; refine hK3 _ _ ?_; clear hK3 K3; refine sq ?_; intro K4 hK4; refine wp_region_lit ?_; refine xmv rfl ?_
  refine xne rfl rfl ?_; refine wpList_nil ?_; refine tn ?_; refine hK4 _ _ ?_; clear hK4 K4
  refine if_ rfl (fun h1 => ?_) (fun h1 => ?_)
  · have h1 : ¬ recCheck r = 0 := by simpa using h1
    refine sq ?_; intro K5 hK5; refine wp_region_lit ?_; refine xmv rfl ?_; refine xas rfl ?_; refine wpList_nil ?_; refine tn ?_; refine hK5 _ _ ?_; clear hK5 K5
    refine wp_ret ?_; refine tr ?_; clear hK2 K2
    replace H := H.keeps [2] rfl; refine hQ _ _ _ ?_; refine r1 rfl rfl H ?_
    rw [if_pos h1]; exact ⟨rfl, rfl⟩
  · have h1 : recCheck r = 0 := by simpa using h1
    have h1' : ¬ recCheck r ≠ 0 := fun h => h h1
    refine wp_skip ?_; refine tn ?_; refine hK2 _ _ ?_; clear hK2 K2; refine sq ?_; intro K5 hK5; refine sq ?_; intro K6 hK6; refine wp_region_lit ?_
    refine xfa rfl ?_
    refine xldb 0 H rfl rfl rfl ?_
    refine xfa rfl ?_
    refine xldb 1 H rfl rfl rfl ?_
    refine xadm_u64 (b := 1) rfl rfl ?_
    refine xne rfl rfl ?_; refine wpList_nil ?_; refine tn ?_; refine hK6 _ _ ?_; clear hK6 K6
    refine if_ rfl (fun h2 => ?_) (fun h2 => ?_)
    · have h2 : r.seq ≠ (l.seq + 1) % 18446744073709551616 := by have := bne_iff_ne.1 h2; omega
      refine sq ?_; intro K7 hK7; refine wp_region_lit ?_; refine xas rfl ?_; refine wpList_nil ?_; refine tn ?_; refine hK7 _ _ ?_; clear hK7 K7; refine wp_ret ?_
      refine tr ?_; clear hK5 K5
      replace H := H.keeps [2] rfl; refine hQ _ _ _ ?_; refine r1 rfl rfl H ?_
      rw [if_neg h1', if_pos h2]; exact ⟨rfl, rfl⟩
    · have h2 : r.seq = (l.seq + 1) % 18446744073709551616 := by have := bne_eq_false_iff_eq.1 h2; omega
      have h2' : ¬ r.seq ≠ (l.seq + 1) % 18446744073709551616 := fun h => h h2
      refine wp_skip ?_; refine tn ?_; refine hK5 _ _ ?_; clear hK5 K5; refine sq ?_; intro K7 hK7; refine wp_region_lit ?_
      refine xldab 1 H rfl rfl rfl rfl ?_
      refine xfa rfl ?_
      refine xldb 0 H rfl rfl rfl ?_
      refine xc [2] H (hp) rfl rfl rfl rfl rfl ?_; rintro _ _ w ⟨rfl, rfl⟩ H; replace H := H.ap rfl
      refine xmv rfl ?_; refine xex rfl rfl ?_; refine xex rfl rfl ?_; refine xas rfl ?_; refine xas rfl ?_; refine wpList_nil ?_
      refine tn ?_; refine hK7 _ _ ?_; clear hK7 K7; refine sq ?_; intro K8 hK8; refine sq ?_; intro K9 hK9; refine wp_region_lit ?_; refine xmv rfl ?_
      refine wpList_nil ?_; refine tn ?_; refine hK9 _ _ ?_; clear hK9 K9
      refine if_ rfl (fun h3 => ?_) (fun h3 => ?_)
      · have hk := placeB_lt h3
        refine sq ?_; intro K10 hK10; refine drwk (m := 8) [0, 0, 0] 100000 rfl rfl rfl H ?_; clear H; intro w H
        refine dt' 0 rfl (by kernel_rfl) (H.keeps [0, 0, 0] rfl) (yfa rfl) ?_
        refine dt 1 rfl (by kernel_rfl) (H.keeps [0, 0, 0] rfl) (zldb 2 rfl rfl rfl) ?_
        refine dt' 2 rfl (by kernel_rfl) (H.keeps [0, 0, 0] rfl) (ymv rfl) ?_
        refine dt 5 rfl (by kernel_rfl) (H.keeps [0, 0, 0] rfl) (zldab 1 rfl rfl rfl rfl) ?_
        refine do1 3 rfl (by kernel_rfl) ?_; intro K11 hK11
        obtain ⟨p, hp, hpe, hpm⟩ := hL.at hk
        refine xiar hL.rd (flat_get AcctP.len hp) (by simp [AcctP.v, acctV]) hk rfl rfl rfl ?_; intro b30 o30 hx30
        refine wpList_nil ?_; refine tn ?_; refine hK11 _ _ (fun _ => (H.keeps [0, 0, 0] rfl)) ?_; clear hK11 K11
        refine dt 4 rfl (by kernel_rfl) (H.keeps [0, 0, 0] rfl) (zlda 0 rfl rfl hx30 rfl) ?_
        refine do1 6 rfl (by kernel_rfl) ?_; intro K12 hK12
        refine xc [0] H ((c_acheck A p.a p.lo p.lc p.co p.cc r hpm.1 hrk hpm.2)) rfl rfl rfl rfl rfl ?_; rintro _ _ w ⟨rfl, rfl⟩ H; replace H := H.ap rfl
        refine wpList_nil ?_; refine tn ?_; refine hK12 _ _ (fun _ => (H.keeps [0, 0, 0] rfl)) ?_; clear hK12 K12
        refine dt' 7 rfl (by kernel_rfl) (H.keeps [0, 0, 0] rfl) (yas rfl) ?_; refine dd (by kernel_rfl) ?_; refine tn ?_; refine hK10 _ _ ?_; clear hK10 K10
        refine wp_ret ?_; refine tr ?_; clear hK8 K8
        replace H := H.keeps [0] rfl; refine hQ _ _ _ ?_; refine r1 rfl rfl H ?_
        rw [if_neg h1', if_neg h2', if_pos h3, if_pos h3, ← hpe]; exact ⟨rfl, rfl⟩
      · have h3' : ¬ placeB l.l r.tenant = true := by simp [h3]
        refine wp_skip ?_; refine tn ?_; refine hK8 _ _ ?_; clear hK8 K8; refine sq ?_; intro K10 hK10; refine sq ?_; intro K11 hK11; refine wp_region_lit ?_
        refine xfa rfl ?_
        refine xldb 2 H rfl rfl rfl ?_
        refine xli rfl ?_; refine xge rfl rfl ?_; refine wpList_nil ?_; refine tn ?_; refine hK11 _ _ ?_; clear hK11 K11
        refine if_ rfl (fun h4 => ?_) (fun h4 => ?_)
        · have h4 : 8 ≤ l.l.length := by have := of_decide_eq_true h4; omega
          refine sq ?_; intro K12 hK12; refine wp_region_lit ?_; refine xas rfl ?_; refine wpList_nil ?_; refine tn ?_; refine hK12 _ _ ?_; clear hK12 K12
          refine wp_ret ?_; refine tr ?_; clear hK10 K10
          replace H := H.keeps [0] rfl; refine hQ _ _ _ ?_; refine r1 rfl rfl H ?_
          rw [if_neg h1', if_neg h2', if_neg h3', if_pos h4]; exact ⟨rfl, rfl⟩
        · have h4 : ¬ 8 ≤ l.l.length := by have := of_decide_eq_false h4; omega
          refine wp_skip ?_; refine tn ?_; refine hK10 _ _ ?_; clear hK10 K10; refine sq ?_; intro K12 hK12; refine wp_region_lit ?_; refine xfa rfl ?_
          refine xldb 1 H rfl rfl rfl ?_
          refine xbu rfl ?_
          refine xldab 1 H rfl rfl rfl rfl ?_
          refine xc [0] H ((c_acheck A (newA r.tenant) none 0 none 0 r (newA_ok _) hrk (newA_r _ _))) rfl rfl rfl rfl rfl ?_; rintro _ _ w ⟨rfl, rfl⟩ H; replace H := H.ap rfl
          refine xas rfl ?_; refine wpList_nil ?_; refine tn ?_; refine hK12 _ _ ?_; clear hK12 K12; refine wp_ret ?_
          replace H := H.keeps [0] rfl; refine hQ _ _ _ ?_; refine r1 rfl rfl H ?_
          rw [if_neg h1', if_neg h2', if_neg h3', if_neg h4, if_neg h3']; exact ⟨rfl, rfl⟩
end Go.Proofs.YtegllbmkkfnajaaGreatDoor
end
