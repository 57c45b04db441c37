/-
  Own texts of this claim: walks of the functions, and what is reckoned of them.
-/
import Derived.Test.YtegllbmkkfnajaaGreatDoorM4
import Derived.Recover
import Derived.Shelf.Sort.Plain
import Derived.Shelf.Slices.In.SortNone
import Derived.Test.YtegllbmkkfnajaaGreatDoorProg
section
namespace Go.Proofs.YtegllbmkkfnajaaGreatDoor
open Go Go.Proofs
attribute [local irreducible] Go.wpList Go.Code.wp St Fn mk
set_option maxRecDepth 20000
theorem boxNext_ok {bs : List UInt8} {k p : Nat} {b : List UInt8} (h : boxNext bs k = .ok (b, p)) : k + 7 ≤ p ∧ p ≤ bs.length ∧ b.length + 6 + k = p ∧ b.length ≤ 4096 := by
  unfold boxNext at h
  simp only at h
  split at h
  · cases h
  split at h
  · cases h
  split at h
  · cases h
  split at h
  · cases h
  split at h
  · cases h
  split at h
  · cases h
  rename_i h1 h2 h3 h4 h5 _ inner ho
  cases h
  have := openB_len ho
  simp only [List.length_take, List.length_drop] at *
  omega
def boxesF : Nat → List UInt8 → Nat → List (List UInt8 × Nat)
  | 0, _, _ => []
  | n + 1, bs, k => match boxNext bs k with
    | .ok (b, p) => (b, p) :: boxesF n bs p
    | .error _ => []
theorem boxesF_out (bs : List UInt8) (n k : Nat) (h : bs.length < k) : boxesF n bs k = [] := by
  cases n with
  | zero => rfl
  | succ n => simp [boxesF, boxNext, h]
theorem boxesF_fuel (bs : List UInt8) : ∀ n m k, bs.length + 1 - k ≤ n → bs.length + 1 - k ≤ m → boxesF n bs k = boxesF m bs k
  | 0, m, k, h, _ => by rw [boxesF_out bs m k (by omega)]; rfl
  | n + 1, 0, k, _, h => by rw [boxesF_out bs (n + 1) k (by omega)]; rfl
  | n + 1, m + 1, k, h1, h2 => by
    cases hb : boxNext bs k with
    | error e => simp only [boxesF, hb]
    | ok r =>
      obtain ⟨b, p⟩ := r
      have hp := boxNext_ok hb
      simp only [boxesF, hb]
      rw [boxesF_fuel bs n m p (by omega) (by omega)]
def boxesAt (bs : List UInt8) (k : Nat) : List (List UInt8 × Nat) := boxesF (bs.length + 1) bs k
theorem boxesAt_eq (bs : List UInt8) (k : Nat) : boxesAt bs k = match boxNext bs k with | .ok (b, p) => (b, p) :: boxesAt bs p | .error _ => [] := by
  unfold boxesAt
  conv => lhs; unfold boxesF
  cases hb : boxNext bs k with
  | error e => rfl
  | ok r =>
    obtain ⟨b, p⟩ := r
    have hp := boxNext_ok hb
    simp only
    rw [boxesF_fuel bs bs.length (bs.length + 1) p (by omega) (by omega)]
theorem boxNext_err {bs : List UInt8} {k : Nat} {e : Int} (h : boxNext bs k = .error e) : e ≠ 0 := by
  unfold boxNext at h
  simp only at h
  repeat' split at h
  all_goals first | (cases h; done) | (cases h; decide)
structure BoxX where
  ao : Option Addr
  cap : Nat
  b : List UInt8
  p : Nat
def BoxX.pr (x : BoxX) : List UInt8 × Nat := (x.b, x.p)
def BoxX.enc (x : BoxX) : List Value := [.slice x.ao x.b.length x.cap, .int .i64 x.p]
def BoxX.own (x : BoxX) : List Asn := [Go.Proofs.YtegllbmkkfnajaaGreatDoor.own x.ao x.cap 5 1 x.b.length (bv x.b)]
theorem boxesF_len (bs : List UInt8) : ∀ n k, k ≤ bs.length → (boxesF n bs k).length * 7 + k ≤ bs.length
  | 0, k, hk => by simpa [boxesF] using hk
  | n + 1, k, hk => by
    simp only [boxesF]
    cases hb : boxNext bs k with
    | error e => simpa using hk
    | ok r =>
      obtain ⟨b, p⟩ := r
      have hp := boxNext_ok hb
      have := boxesF_len bs n p hp.2.1
      simp only [List.length_cons]; omega
theorem c_boxes1 (bb : Nat) (ao : Option Addr) (cap : Nat) (bs : List UInt8) (I : List BoxX → Asn) (Ix : Code → List BoxX → Asn) (hr : ∀ pre, Bys (I pre) ao bs) (hl : bs.length ≤ 1099511627776) (hcap : bs.length ≤ cap) :
    Its Tryz.prog 164 [.pointer (some ⟨bb, 0, none⟩)] BoxX.enc BoxX.own (fun xs => xs.map BoxX.pr = boxesAt bs 0) (fun pre => ∃ rest, pre.map BoxX.pr ++ rest = boxesAt bs 0) (bs.length) I Ix
      [blk bb [.slice ao bs.length cap] 59] := by
  intro l R Rx hY
  refine Fn.intro Tryz.call164 Tryz.func164 rfl Tryz.ntmps164 rfl ?_; intro g w Q hQ H
  refine sq ?_; intro K1 hK1; refine wp_region_lit ?_; refine xas rfl ?_; refine wpList_nil ?_; refine tn ?_; refine hK1 _ _ ?_; clear hK1 K1; refine wp_block ?_
  refine lp2 (α := List BoxX) (β := Nat) (fun pre at_ => [(0, .func (.yield l) #[] #[]), (1, .pointer (some ⟨bb, 0, none⟩)), (3, .int .i64 at_)]) (fun pre at_ => [I pre, R, blk bb [.slice ao bs.length cap] 59]) (fun pre at_ => pre.map BoxX.pr ++ boxesAt bs at_ = boxesAt bs 0 ∧ at_ ≤ bs.length ∧ pre.length * 7 ≤ at_) (fun pre at_ => bs.length - at_) ([]) (0) ⟨rfl, rfl, rfl, True.intro⟩ (⟨rfl, Nat.zero_le _, Nat.zero_le _⟩) H ?_; intro pre at_ ρ w hI H K2 hK2
  obtain ⟨hI1, hI2, hI3⟩ := hI
  have hc := c_next (I pre) ao cap bs at_ (hr pre) hl hcap (by omega)
  rw [boxesAt_eq] at hI1
  refine wp_block ?_; refine sq ?_; intro K3 hK3; refine wp_region_lit ?_
  refine xldb 2 H rfl rfl rfl ?_
  refine xmv rfl ?_
  rcases hb : boxNext bs at_ with e | ⟨b, p⟩
  · rw [hb] at hc hI1
    have he := boxNext_err hb
    refine xc [0] H (hc) rfl rfl rfl rfl rfl ?_; rintro _ _ w ⟨rfl, rfl⟩ H; replace H := H.ap rfl
    refine xmv rfl ?_; refine xex rfl rfl ?_; refine xex rfl rfl ?_; refine xex rfl rfl ?_; refine xas rfl ?_; refine xas rfl ?_; refine xas rfl ?_
    refine wpList_nil ?_; refine tn ?_; refine hK3 _ _ ?_; clear hK3 K3; refine sq ?_; intro K4 hK4; refine sq ?_; intro K5 hK5; refine wp_region_lit ?_
    refine xmv rfl ?_; refine xne rfl rfl ?_; refine xmv rfl ?_
    rw [show (e != 0) = true by simpa using he]
    refine xgn rfl rfl rfl ?_; refine xgn rfl rfl rfl ?_; refine xgn rfl rfl rfl ?_; refine xgn rfl rfl rfl ?_; refine xgn rfl rfl rfl ?_; refine xpkt rfl rfl ?_
    refine wpList_nil ?_; refine tn ?_; refine hK5 _ _ ?_; clear hK5 K5; refine ift rfl ?_; refine wp_ret ?_; refine tr ?_; clear hK4 K4; refine br ?_
    refine tr ?_; clear hK2 K2; refine br ?_
    refine hQ _ _ _ ?_; refine r0 rfl H ?_
    rw [List.append_nil] at hI1
    exact .inl ⟨pre, hI1, rfl⟩
  · rw [hb] at hc hI1
    have hp := boxNext_ok hb
    refine xc [0] H (hc) rfl rfl rfl rfl rfl ?_; rintro _ _ w ⟨ao2, cap2, rfl, rfl⟩ H; replace H := H.ap rfl
    refine xmv rfl ?_; refine xex rfl rfl ?_; refine xex rfl rfl ?_; refine xex rfl rfl ?_; refine xas rfl ?_; refine xas rfl ?_; refine xas rfl ?_
    refine wpList_nil ?_; refine tn ?_; refine hK3 _ _ ?_; clear hK3 K3; refine sq ?_; intro K4 hK4; refine sq ?_; intro K5 hK5
    refine region_in ?_; refine list_at 6 rfl rfl ?_; refine xmv rfl ?_; refine xne rfl rfl ?_; refine xmv rfl ?_
    refine xgy rfl rfl rfl ?_; refine xmv rfl ?_; refine xgy rfl rfl rfl ?_; refine xmv rfl ?_; refine xgy rfl rfl rfl ?_; refine xmv rfl ?_
    refine wpList_nil ?_; refine qtn ?_
    refine xydg [1, 1, 0] H (hY pre ⟨ao2, cap2, b, p⟩ (by omega)) rfl rfl rfl rfl rfl rfl ?_; rintro _ _ w (⟨rfl, rfl⟩ | ⟨rfl, c, rfl⟩) H <;> replace H := H.ap rfl
    · refine list_all rfl ?_; refine xgy rfl rfl rfl ?_; refine xntt rfl ?_; refine xpkf rfl rfl ?_; refine wpList_nil ?_; refine qte ?_
      refine tn ?_; refine hK5 _ _ ?_; clear hK5 K5; refine iff_ rfl ?_; refine wp_skip ?_; refine tn ?_; refine hK4 _ _ ?_; clear hK4 K4; refine wp_region_lit ?_
      refine xmv rfl ?_; refine xas rfl ?_; refine wpList_nil ?_; refine bn ?_
      refine tn ?_; refine hK2 _ _ ((pre ++ [⟨ao2, cap2, b, p⟩])) (p) ⟨rfl, rfl, rfl, True.intro⟩ ?_ H ?_
      · exact ⟨by simpa [BoxX.pr] using hI1, hp.2.1, by simp; omega⟩
      · omega
    · refine list_all rfl ?_; refine xgy rfl rfl rfl ?_; refine xntf rfl ?_; refine xpkf rfl rfl ?_; refine wpList_nil ?_; refine qte ?_
      refine tn ?_; refine hK5 _ _ ?_; clear hK5 K5; refine ift rfl ?_; refine wp_ret ?_; refine tr ?_; clear hK4 K4; refine br ?_; refine tr ?_; clear hK2 K2
      refine br ?_
      refine hQ _ _ _ ?_; refine r0 rfl H ?_
      exact .inr ⟨c, pre ++ [⟨ao2, cap2, b, p⟩], ⟨boxesAt bs p, by simpa [BoxX.pr] using hI1⟩, rfl⟩
theorem c_boxes (ao : Option Addr) (cap : Nat) (bs : List UInt8) :
    Fn Tryz.prog 135 [.slice ao bs.length cap] [] (Ret fun v L => ∃ bb, v = .func (.func 164) #[] #[.pointer (some ⟨bb, 0, none⟩)] ∧ L = [blk bb [.slice ao bs.length cap] 59]) := by
  refine Fn.intro Tryz.call135 Tryz.func135 rfl Tryz.ntmps135 rfl ?_; intro g w Q hQ H
  refine sq ?_; intro K1 hK1; refine wp_region_lit ?_; refine xbx H rfl rfl ?_; intro b1 w H; refine xas rfl ?_; refine wpList_nil ?_
  refine tn ?_; refine hK1 _ _ ?_; clear hK1 K1; refine sq ?_; intro K2 hK2; refine wp_region_lit ?_; refine xmf rfl rfl ?_; refine xas rfl ?_
  refine wpList_nil ?_; refine tn ?_; refine hK2 _ _ ?_; clear hK2 K2; refine wp_ret ?_
  refine hQ _ _ _ ?_; refine r1 rfl rfl H ?_
  exact ⟨_, rfl, rfl⟩
def validI (μ : Mem) (b4 b5 : Nat) (pre : List BoxX) : Asn :=
  exv (fun x : Mem × Option Addr × Nat × List Value => μ ≤ x.1 ∧ BsL (imm x.1) x.2.2.2 (pre.map BoxX.b)) fun x =>
    [imm x.1, own x.2.1 x.2.2.1 59 1 pre.length x.2.2.2, blk b4 [.slice x.2.1 pre.length x.2.2.1] 102, blk b5 [.int .i64 ((pre.getLast?.map BoxX.p).getD 0)] 3]
def validP (bs : List UInt8) : Nat := ((boxesAt bs 0).getLast?.map Prod.snd).getD 0
theorem c_valid (μ : Mem) (ao : Option Addr) (cap : Nat) (bs : List UInt8) (hr : Bys (imm μ) ao bs) (hl : bs.length ≤ 1099511627776) (hcap : bs.length ≤ cap) :
    Fn Tryz.prog 96 [.slice ao bs.length cap] [imm μ] (Ret fun v L => ∃ ν out oc vs, μ ≤ ν ∧ BsL (imm ν) vs ((boxesAt bs 0).map Prod.fst) ∧ v = .tuple #[.slice out (boxesAt bs 0).length oc, .int .i64 (validP bs)] ∧
      L = [own out oc 59 1 (boxesAt bs 0).length vs, imm ν]) := by
  refine Fn.introM Tryz.call96 Tryz.func96 rfl Tryz.ntmps96 rfl ?_; intro g w Q hQ H
  refine sq ?_; intro K1 hK1; refine wp_region_lit ?_; refine xas rfl ?_; refine xas rfl ?_; refine wpList_nil ?_; refine tn ?_; refine hK1 _ _ ?_; clear hK1 K1
  refine sq ?_; intro K2 hK2; refine wp_region_lit ?_; refine xal H ?_; intro b4 w H; refine wpList_nil ?_; refine tn ?_; refine hK2 _ _ ?_; clear hK2 K2
  refine sq ?_; intro K3 hK3; refine wp_region_lit ?_; refine xal H ?_; intro b5 w H
  (refine xst 0 H rfl rfl rfl rfl rfl ?_; intro w H)
  refine wpList_nil ?_; refine tn ?_; refine hK3 _ _ ?_; clear hK3 K3; refine sq ?_; intro K4 hK4; refine sq ?_; intro K5 hK5; refine wp_region_lit ?_
  refine xmv rfl ?_
  refine xc [] H ((c_boxes ao cap bs)) rfl rfl rfl rfl rfl ?_; rintro _ _ w ⟨bb, rfl, rfl⟩ H; replace H := H.ap rfl
  refine wpList_nil ?_; refine tn ?_; refine hK5 _ _ ?_; clear hK5 K5; refine wp_block ?_
  replace H := H.ownNil 59 1
  have hS : ∀ pre, Sees (validI μ b4 b5 pre) (imm μ) := fun pre => Sees.exv fun x hx => ⟨0, _, rfl, hx.1.sees⟩
  have H : St g w (validI μ b4 b5 [] :: [blk bb [.slice ao bs.length cap] 59]) := St.toexv (μ, none, 0, []) ⟨Mem.rfl, True.intro⟩ (H.front' [4, 0, 2, 1] rfl rfl)
  refine xrf (I := validI μ b4 b5) (Ix := fun _ _ => fct False) [0, 0] H rfl rfl (c_boxes1 bb ao cap bs (validI μ b4 b5) (fun _ _ => fct False) (fun pre => hr.sees (hS pre)) hl hcap) (fun _ => rfl) (fun l pre x w K hN hK => ?_) (fun D xs w hS H => ?_) (fun D c pre w hS H => ?_)
  · refine wpIn_seq_k ?_; intro K6 hK6; refine wpIn_region_lit ?_; refine list_all rfl ?_; refine xas rfl ?_; refine wpList_nil ?_; refine qte ?_
    refine tn ?_; refine hK6 _ _ ?_; clear hK6 K6; refine wpIn_region_lit ?_; refine list_all rfl ?_; refine xas rfl ?_; refine wpList_nil ?_; refine qte ?_
    refine tn ?_; refine hK _ ?_; clear hK K; intro g w H
    obtain ⟨⟨ν, out, oc, vs⟩, ⟨hν, hvs⟩, H⟩ := H.unexv
    simp only at hν hvs
    replace H : St g w [imm ν, own out oc 59 1 pre.length vs, blk b4 [.slice out pre.length oc] 102, blk b5 [.int .i64 ((pre.getLast?.map BoxX.p).getD 0)] 3, own x.ao x.cap 5 1 x.b.length (bv x.b)] := H
    have hbl := H.front' [4] rfl rfl |>.ownLen
    obtain ⟨ξ, hξ, hrd, H⟩ := (H.front' [4, 0] rfl rfl).freezeOwn
    refine wpIn_block ?_; refine wpIn_seq_k ?_; intro K7 hK7; refine wpIn_region_lit ?_; refine list_all rfl ?_
    refine xldb 2 H rfl rfl rfl ?_
    refine xmv rfl ?_; refine xbs H rfl rfl rfl (by simp [Value.cells] <;> rfl) rfl rfl ?_; intro b14 w H
    refine xap 2 H rfl rfl rfl (src_at (news := [.slice x.ao x.b.length x.cap]) 0 H rfl (St.ownRd H) rfl) (fun v hv => by simp at hv; subst hv; rfl) (by omega) (by simp only [maxLen]; omega) ?_; intro ao15 cap15 w H hn15
    (refine xst 3 H rfl rfl rfl rfl rfl ?_; intro w H)
    refine wpList_nil ?_; refine qte ?_; refine tn ?_; refine hK7 _ _ ?_; clear hK7 K7; refine wpIn_region_lit ?_; refine list_all rfl ?_; refine xmv rfl ?_
    (refine xst 4 H rfl rfl rfl rfl rfl ?_; intro w H)
    refine wpList_nil ?_; refine qte ?_; refine bn ?_
    show St g w [validI μ b4 b5 (pre ++ [x])]
    refine St.toexv (ξ, ao15, cap15, vs ++ [.slice x.ao x.b.length x.cap]) ⟨hν.trans hξ, ?_⟩ ?_
    · rw [List.map_append]; exact Fa2.app (hvs.sees hξ.sees) ⟨⟨_, _, rfl, hrd, hbl.2⟩, True.intro⟩
    · simpa using (H.front' [3] rfl rfl).drop.front' [3, 2, 1, 0] rfl rfl
  · simp only [List.cons_append, List.nil_append, List.append_nil] at H
    obtain ⟨⟨ν, out, oc, vs⟩, ⟨hν, hvs⟩, H⟩ := (H.front' [1] rfl rfl).unexv
    simp only at hν hvs
    replace H : St g w [imm ν, own out oc 59 1 xs.length vs, blk b4 [.slice out xs.length oc] 102, blk b5 [.int .i64 ((xs.getLast?.map BoxX.p).getD 0)] 3, obj D (.deferred (some [])), blk bb [.slice ao bs.length cap] 59] := H
    refine bn ?_; refine tn ?_; refine hK4 _ _ ?_; clear hK4 K4; refine sq ?_; intro K6 hK6; refine drws (m := 4) 100000 rfl rfl H ?_; clear H; intro w H
    refine dt 0 rfl (by kernel_rfl) H (zldb 2 rfl rfl rfl) ?_
    refine dt 1 rfl (by kernel_rfl) H (zldb 3 rfl rfl rfl) ?_
    refine dt' 2 rfl (by kernel_rfl) H (yas rfl) ?_; refine dt' 3 rfl (by kernel_rfl) H (yas rfl) ?_; refine dd (by kernel_rfl) ?_
    refine tn ?_; refine hK6 _ _ ?_; clear hK6 K6; refine wp_ret ?_
    refine hQ _ _ _ ?_; refine rM [4] rfl H ?_; intro w H; replace H := H.keeps [1, 0] rfl; refine r2 rfl rfl rfl H ?_
    have hx : (boxesAt bs 0).length = xs.length := by rw [← hS]; simp
    refine ⟨ν, out, oc, vs, hν, ?_, ?_, by rw [hx]⟩
    · rw [← hS]; simpa [Function.comp_def, BoxX.pr] using hvs
    · rw [hx]; unfold validP; rw [← hS]; simp [Function.comp_def, BoxX.pr]
  · exact False.elim (St.unfct (H.front' [1] rfl rfl)).1
end Go.Proofs.YtegllbmkkfnajaaGreatDoor
end
section
namespace Go.Proofs.YtegllbmkkfnajaaGreatDoor
open Go Go.Proofs
attribute [local irreducible] Go.wpList Go.Code.wp St Fn mk
set_option maxRecDepth 20000
abbrev TkS := Bool × Nat
def takeS (s : TkS) (b : List UInt8) : Option Rec × TkS :=
  match recDec b with
  | .error _ => (none, s)
  | .ok r => if (!s.1 && ((r.seq : Int) != (s.2 : Int))) = true then (none, s) else (some r, (false, (r.seq + 1) % 18446744073709551616))
theorem recDec_err {b : List UInt8} {e : Int} (h : recDec b = .error e) : e ≠ 0 := by
  unfold recDec at h
  split at h
  · cases h; decide
  split at h
  · rename_i h1; cases h; exact h1
  split at h
  · rename_i h1; cases h; exact h1
  · cases h
def tkC (b1 b2 : Nat) (s : TkS) : List Asn := [blk b2 [.bool s.1] 4, blk b1 [.int .u64 s.2] 22]
theorem c_taker : Fn Tryz.prog 95 [] [] (Ret fun v L => ∃ b1 b2, v = .func (.func 133) #[] #[.pointer (some ⟨b2, 0, none⟩), .pointer (some ⟨b1, 0, none⟩)] ∧ L = tkC b1 b2 (true, 0)) := by
  refine Fn.intro Tryz.call95 Tryz.func95 rfl Tryz.ntmps95 rfl ?_; intro g w Q hQ H
  refine sq ?_; intro K1 hK1; refine wp_region_lit ?_; refine xas rfl ?_; refine wpList_nil ?_; refine tn ?_; refine hK1 _ _ ?_; clear hK1 K1
  refine sq ?_; intro K2 hK2; refine wp_region_lit ?_; refine xal H ?_; intro b1 w H; refine wpList_nil ?_; refine tn ?_; refine hK2 _ _ ?_; clear hK2 K2
  refine sq ?_; intro K3 hK3; refine wp_region_lit ?_; refine xal H ?_; intro b2 w H
  (refine xst 0 H rfl rfl rfl rfl rfl ?_; intro w H)
  refine wpList_nil ?_; refine tn ?_; refine hK3 _ _ ?_; clear hK3 K3; refine sq ?_; intro K4 hK4; refine wp_region_lit ?_; refine xmf rfl rfl ?_
  refine xas rfl ?_; refine wpList_nil ?_; refine tn ?_; refine hK4 _ _ ?_; clear hK4 K4; refine wp_ret ?_
  refine hQ _ _ _ ?_; refine r1 rfl rfl H ?_
  exact ⟨_, _, rfl, rfl⟩
theorem c_taker1 (A : Asn) (ao : Option Addr) (cap : Nat) (bs : List UInt8) (b1 b2 : Nat) (s : TkS) (hr : Bys A ao bs) (hl : bs.length ≤ 1099511627776) :
    Fn Tryz.prog 133 [.slice ao bs.length cap, .pointer (some ⟨b2, 0, none⟩), .pointer (some ⟨b1, 0, none⟩)] [A, blk b2 [.bool s.1] 4, blk b1 [.int .u64 s.2] 22]
      (Ret fun v L => v = .tuple #[.agg (recV ((takeS s bs).1.getD rec0)).toArray, .bool (takeS s bs).1.isSome] ∧ L = [A, blk b2 [.bool (takeS s bs).2.1] 4, blk b1 [.int .u64 (takeS s bs).2.2] 22]) := by
  obtain ⟨fi, aw⟩ := s
  have hc := c_decode A ao cap bs hr hl
  refine Fn.intro Tryz.call133 Tryz.func133 rfl Tryz.ntmps133 rfl ?_; intro g w Q hQ H
  refine sq ?_; intro K1 hK1; refine wp_region_lit ?_; refine xal H ?_; intro b4 w H; refine xas rfl ?_; refine wpList_nil ?_
  refine tn ?_; refine hK1 _ _ ?_; clear hK1 K1; refine sq ?_; intro K2 hK2; refine wp_region_lit ?_; refine xmv rfl ?_
  rcases hd : recDec bs with e | r
  · rw [hd] at hc
    have he := recDec_err hd
    have ht : takeS (fi, aw) bs = (none, (fi, aw)) := by unfold takeS; rw [hd]
    refine xc [1] H (hc) rfl rfl rfl rfl rfl ?_; rintro _ _ w ⟨rfl, rfl⟩ H; replace H := H.ap rfl
    refine xmv rfl ?_; refine xex rfl rfl ?_; refine xex rfl rfl ?_; refine xal H ?_; intro b6 w H
    (refine xsta 0 H rfl rfl rfl rfl rfl rfl ?_; intro w H)
    refine xas rfl ?_; refine wpList_nil ?_; refine tn ?_; refine hK2 _ _ ?_; clear hK2 K2; refine sq ?_; intro K3 hK3; refine sq ?_; intro K4 hK4
    refine wp_region_lit ?_; refine xmv rfl ?_; refine xne rfl rfl ?_; refine xmv rfl ?_
    refine jor (b := ?b1) 9 15 [16, 17, 18, 19, 20, 21, 22, 23] 24 rfl rfl H (fun hhc1 hc1 => ?a1) (fun hhc1 hc1 => ?o1) ?_
    case a1 =>
      refine xgy rfl rfl rfl ?_
      refine xldb 3 H rfl rfl rfl ?_
      refine xgy rfl rfl rfl ?_; refine xnt rfl ?_; refine xgy rfl rfl rfl ?_; refine xmv rfl ?_
      refine jand (b := ?b2) 5 18 [19, 20, 21, 22] 23 rfl rfl H (fun hhc2 hc2 => ?a2) (fun hhc2 hc2 => ?o2) ?_
      case a2 =>
        refine xgy rfl rfl rfl ?_; refine xfa rfl ?_; refine xgy rfl rfl rfl ?_
        refine xldb 0 H rfl rfl rfl ?_
        refine xgy rfl rfl rfl ?_
        refine xldb 4 H rfl rfl rfl ?_
        refine xgy rfl rfl rfl ?_; refine xne rfl rfl ?_; refine xgy rfl rfl rfl ?_; refine xpkt rfl rfl ?_; exact hc2 _ _ _ _ _ H
      case o2 =>
        refine xgn rfl rfl rfl ?_; refine xgn rfl rfl rfl ?_; refine xgn rfl rfl rfl ?_; refine xgn rfl rfl rfl ?_; refine xgy rfl rfl rfl ?_; refine xpkf rfl rfl ?_
        exact hc2 _ _ _ _ _ H
      intro u19 u20 u21 u22 w H; refine xpkf rfl rfl ?_; exact hc1 _ _ _ _ _ _ _ _ _ H
    case o1 =>
      refine xgn rfl rfl rfl ?_; refine xgn rfl rfl rfl ?_; refine xgn rfl rfl rfl ?_; refine xgu rfl rfl ?_; refine xgu rfl rfl ?_; refine xgu rfl rfl ?_
      refine xgu rfl rfl ?_; refine xgn rfl rfl rfl ?_; refine xpkt rfl rfl ?_; exact hc1 _ _ _ _ _ _ _ _ _ H
    intro u16 u17 u18 u19 u20 u21 u22 u23 w H; refine wpList_nil ?_; refine tn ?_; refine hK4 _ _ ?_; clear hK4 K4
    refine if_ rfl (fun h1 => ?_) (fun h1 => ?_)
    · refine sq ?_; intro K5 hK5; refine wp_region_lit ?_; refine xbu rfl ?_
      (refine xsta 2 H rfl rfl rfl rfl rfl rfl ?_; intro w H)
      refine xas rfl ?_; refine wpList_nil ?_; refine tn ?_; refine hK5 _ _ ?_; clear hK5 K5; refine wp_ret ?_; refine tr ?_; clear hK3 K3
      refine hQ _ _ _ ?_
      refine rca1 0 [2, 2, 2] rfl rfl rfl H rfl (blk_cells (k := 6) rfl rfl) rfl rfl ?_
      rw [ht]; exact ⟨rfl, rfl⟩
    · exact absurd h1 (by simp [he])
  · rw [hd] at hc
    refine xc [1] H (hc) rfl rfl rfl rfl rfl ?_; rintro _ _ w ⟨rfl, rfl⟩ H; replace H := H.ap rfl
    refine xmv rfl ?_; refine xex rfl rfl ?_; refine xex rfl rfl ?_; refine xal H ?_; intro b6 w H
    (refine xsta 0 H rfl rfl rfl rfl rfl rfl ?_; intro w H)
    refine xas rfl ?_; refine wpList_nil ?_; refine tn ?_; refine hK2 _ _ ?_; clear hK2 K2; refine sq ?_; intro K3 hK3; refine sq ?_; intro K4 hK4
    refine wp_region_lit ?_; refine xmv rfl ?_; refine xne rfl rfl ?_; refine xmv rfl ?_
    refine jor (b := ?b3) 9 15 [16, 17, 18, 19, 20, 21, 22, 23] 24 rfl rfl H (fun hhc3 hc3 => ?a3) (fun hhc3 hc3 => ?o3) ?_
    case a3 =>
      refine xgy rfl rfl rfl ?_
      refine xldb 3 H rfl rfl rfl ?_
      refine xgy rfl rfl rfl ?_; refine xnt rfl ?_; refine xgy rfl rfl rfl ?_; refine xmv rfl ?_
      refine jand (b := ?b4) 5 18 [19, 20, 21, 22] 23 rfl rfl H (fun hhc4 hc4 => ?a4) (fun hhc4 hc4 => ?o4) ?_
      case a4 =>
        refine xgy rfl rfl rfl ?_; refine xfa rfl ?_; refine xgy rfl rfl rfl ?_
        refine xldb 0 H rfl rfl rfl ?_
        refine xgy rfl rfl rfl ?_
        refine xldb 4 H rfl rfl rfl ?_
        refine xgy rfl rfl rfl ?_; refine xne rfl rfl ?_; refine xgy rfl rfl rfl ?_; refine xpkt rfl rfl ?_; exact hc4 _ _ _ _ _ H
      case o4 =>
        refine xgn rfl rfl rfl ?_; refine xgn rfl rfl rfl ?_; refine xgn rfl rfl rfl ?_; refine xgn rfl rfl rfl ?_; refine xgy rfl rfl rfl ?_; refine xpkf rfl rfl ?_
        exact hc4 _ _ _ _ _ H
      intro u19 u20 u21 u22 w H; refine xpkf rfl rfl ?_; exact hc3 _ _ _ _ _ _ _ _ _ H
    case o3 =>
      refine xgn rfl rfl rfl ?_; refine xgn rfl rfl rfl ?_; refine xgn rfl rfl rfl ?_; refine xgu rfl rfl ?_; refine xgu rfl rfl ?_; refine xgu rfl rfl ?_
      refine xgu rfl rfl ?_; refine xgn rfl rfl rfl ?_; refine xpkt rfl rfl ?_; exact hc3 _ _ _ _ _ _ _ _ _ H
    intro u16 u17 u18 u19 u20 u21 u22 u23 w H; refine wpList_nil ?_; refine tn ?_; refine hK4 _ _ ?_; clear hK4 K4
    refine if_ rfl (fun h1 => ?_) (fun h1 => ?_)
    · have ht : takeS (fi, aw) bs = (none, (fi, aw)) := by unfold takeS; rw [hd]; exact if_pos h1
      refine sq ?_; intro K5 hK5; refine wp_region_lit ?_; refine xbu rfl ?_
      (refine xsta 2 H rfl rfl rfl rfl rfl rfl ?_; intro w H)
      refine xas rfl ?_; refine wpList_nil ?_; refine tn ?_; refine hK5 _ _ ?_; clear hK5 K5; refine wp_ret ?_; refine tr ?_; clear hK3 K3
      refine hQ _ _ _ ?_
      refine rca1 0 [2, 2, 2] rfl rfl rfl H rfl (blk_cells (k := 6) rfl rfl) rfl rfl ?_
      rw [ht]; exact ⟨rfl, rfl⟩
    · have ht : takeS (fi, aw) bs = (some r, (false, (r.seq + 1) % 18446744073709551616)) := by unfold takeS; rw [hd]; exact if_neg (fun h => by have h2 := h1.symm.trans h; cases h2)
      refine wp_skip ?_; refine tn ?_; refine hK3 _ _ ?_; clear hK3 K3; refine sq ?_; intro K5 hK5; refine wp_region_lit ?_
      (refine xst 3 H rfl rfl rfl rfl rfl ?_; intro w H)
      refine wpList_nil ?_; refine tn ?_; refine hK5 _ _ ?_; clear hK5 K5; refine sq ?_; intro K6 hK6; refine wp_region_lit ?_; refine xfa rfl ?_
      refine xldb 1 H rfl rfl rfl ?_
      refine xadm_u64 (b := 1) rfl rfl ?_
      (refine xst 4 H rfl rfl rfl rfl rfl ?_; intro w H)
      refine wpList_nil ?_; refine tn ?_; refine hK6 _ _ ?_; clear hK6 K6; refine sq ?_; intro K7 hK7; refine wp_region_lit ?_
      refine xldab 2 H rfl rfl rfl rfl ?_
      (refine xsta 4 H rfl rfl rfl rfl rfl rfl ?_; intro w H)
      refine xas rfl ?_; refine wpList_nil ?_; refine tn ?_; refine hK7 _ _ ?_; clear hK7 K7; refine wp_ret ?_
      refine hQ _ _ _ ?_
      refine rca1 0 [4, 2, 1] rfl rfl rfl H rfl (blk_cells (k := 6) rfl rfl) rfl rfl ?_
      rw [ht]; exact ⟨rfl, rfl⟩
def segTake : TkS → List (List UInt8) → List Rec × TkS
  | s, [] => ([], s)
  | s, b :: l => match (takeS s b).1 with
    | none => ([], (takeS s b).2)
    | some r => (r :: (segTake (takeS s b).2 l).1, (segTake (takeS s b).2 l).2)
def segRecs : TkS → List (List UInt8) → List Rec
  | _, [] => []
  | s, b :: l => (segTake s ((boxesAt b 0).map Prod.fst)).1 ++ segRecs (segTake s ((boxesAt b 0).map Prod.fst)).2 l
theorem segTake_none {s : TkS} {b : List UInt8} {l : List (List UInt8)} (h : (takeS s b).1 = none) : segTake s (b :: l) = ([], (takeS s b).2) := by
  simp only [segTake, h]
theorem segTake_some {s : TkS} {b : List UInt8} {l : List (List UInt8)} {r : Rec} (h : (takeS s b).1 = some r) : segTake s (b :: l) = (r :: (segTake (takeS s b).2 l).1, (segTake (takeS s b).2 l).2) := by
  simp only [segTake, h]
theorem boxes_mem {bs : List UInt8} : ∀ (n k : Nat), ∀ x ∈ boxesF n bs k, x.1.length ≤ 4096
  | 0, k => by simp [boxesF]
  | n + 1, k => by
    simp only [boxesF]
    cases hb : boxNext bs k with
    | error e => simp
    | ok r =>
      obtain ⟨b, p⟩ := r
      have hp := boxNext_ok hb
      intro x hx
      rcases List.mem_cons.1 hx with rfl | hx
      · exact hp.2.2.2
      · exact boxes_mem n p x hx
theorem c_records (μ : Mem) (lo : Option Addr) (lc : Nat) (vs : List Value) (bl : List (List UInt8)) (hr : Rd (imm μ) lo vs) (hv : BsL (imm μ) vs bl) (hn : bl.length ≤ 1099511627776) (hb : ∀ b ∈ bl, b.length ≤ 1099511627776)
    (hW : (segRecs (true, 0) bl).length < 1099511627776) :
    Fn Tryz.prog 60 [.slice lo bl.length lc] [imm μ] (Ret fun v L => ∃ ν ao cap, μ ≤ ν ∧ v = .slice ao (segRecs (true, 0) bl).length cap ∧ L = [own ao cap recT 6 (segRecs (true, 0) bl).length (recsV (segRecs (true, 0) bl)), imm ν]) := by
  obtain ⟨W, hWe⟩ : ∃ W, segRecs (true, 0) bl = W := ⟨_, rfl⟩
  rw [hWe] at hW ⊢
  have hvl := Fa2.len hv
  refine Fn.intro Tryz.call60 Tryz.func60 rfl Tryz.ntmps60 rfl ?_; intro g w Q hQ H
  refine sq ?_; intro K1 hK1; refine wp_region_lit ?_; refine xas rfl ?_; refine wpList_nil ?_; refine tn ?_; refine hK1 _ _ ?_; clear hK1 K1
  refine sq ?_; intro K2 hK2; refine wp_region_lit ?_; refine xas rfl ?_; refine wpList_nil ?_; refine tn ?_; refine hK2 _ _ ?_; clear hK2 K2
  refine sq ?_; intro K3 hK3; refine wp_region_lit ?_
  refine xc [] H (c_taker) rfl rfl rfl rfl rfl ?_; rintro _ _ w ⟨b1, b2, rfl, rfl⟩ H; replace H := H.ap rfl
  refine xas rfl ?_; refine wpList_nil ?_; refine tn ?_; refine hK3 _ _ ?_; clear hK3 K3; refine sq ?_; intro K4 hK4; refine sq ?_; intro K5 hK5
  refine wp_region_lit ?_; refine xmv rfl ?_; refine xli rfl ?_; refine xmv rfl ?_; refine wpList_nil ?_; refine tn ?_; refine hK5 _ _ ?_; clear hK5 K5
  refine wp_block ?_
  replace H := H.ownNil recT 6
  replace H : St g w [own none 0 recT 6 0 [], imm μ, blk b2 [.bool true] 4, blk b1 [.int .u64 0] 22] := H.front' [0, 2] rfl rfl
  refine lp4 (α := Nat) (β := TkS) (γ := List Rec) (δ := Mem × Option Addr × Nat) (fun i s dn al => [(3, .slice al.2.1 dn.length al.2.2), (4, .func (.func 133) #[] #[.pointer (some ⟨b2, 0, none⟩), .pointer (some ⟨b1, 0, none⟩)]), (14, .slice lo bl.length lc), (15, .int .i64 bl.length), (16, .int .i64 i)]) (fun i s dn al => [own al.2.1 al.2.2 recT 6 dn.length (recsV dn), imm al.1, blk b2 [.bool s.1] 4, blk b1 [.int .u64 s.2] 22]) (fun i s dn al => dn ++ segRecs s (bl.drop i) = W ∧ i ≤ bl.length ∧ μ ≤ al.1) (fun i s dn al => bl.length - i) (0) ((true, 0)) ([]) ((μ, none, 0)) ⟨rfl, rfl, rfl, rfl, rfl, True.intro⟩ (⟨by simpa using hWe, Nat.zero_le _, Mem.rfl⟩) H ?_; intro i s dn al ρ w hI H K6 hK6
  obtain ⟨hd, hi, hμ⟩ := hI
  obtain ⟨ν, ao, cap⟩ := al
  simp only at hμ H ⊢
  refine sq ?_; intro K7 hK7; refine wp_region_lit ?_; refine xlt rfl rfl ?_; refine wpList_nil ?_; refine tn ?_; refine hK7 _ _ ?_; clear hK7 K7
  refine sq ?_; intro K8 hK8
  refine if_ rfl (fun k1 => ?_) (fun k1 => ?_)
  · have k1 : i < bl.length := by simpa using k1
    obtain ⟨v, hg, bo1, bc, rfl, hbr, hbc⟩ := Fa2.get i k1 hv
    have hbi := hb _ (List.getElem_mem k1)
    rw [List.drop_eq_getElem_cons k1] at hd
    generalize bl[i] = b at hbr hbc hbi hd hg
    unfold segRecs at hd
    refine wp_skip ?_; refine tn ?_; refine hK8 _ _ ?_; clear hK8 K8; refine sq ?_; intro K9 hK9; refine wp_block ?_; refine sq ?_; intro K10 hK10
    refine wp_region_lit ?_
    refine xi1r (hr.up hμ) hg k1 rfl rfl rfl ?_; intro b18 o18 hx18
    refine xld 1 H rfl rfl hx18 ?_
    refine xas rfl ?_; refine wpList_nil ?_; refine tn ?_; refine hK10 _ _ ?_; clear hK10 K10; refine sq ?_; intro K11 hK11; refine wp_region_lit ?_
    refine xmv rfl ?_
    refine xc [1] H ((c_valid ν bo1 bc b (hbr.sees hμ.sees) hbi hbc)) rfl rfl rfl rfl rfl ?_; rintro _ _ w ⟨ξ, out, oc, vs2, hξ, hbs, rfl, rfl⟩ H; replace H := H.ap rfl
    have hmem := boxes_mem (bs := b) (b.length + 1) 0
    have hlb := boxesF_len b (b.length + 1) 0 (Nat.zero_le _)
    have hbl : (boxesAt b 0).length = ((boxesAt b 0).map Prod.fst).length := by simp
    have hmx := hμ.trans hξ
    have hbm : ∀ x ∈ (boxesAt b 0).map Prod.fst, x.length ≤ 4096 := by
      intro x hx; obtain ⟨y, hy, rfl⟩ := List.mem_map.1 hx; exact hmem y hy
    have hnn : ((boxesAt b 0).map Prod.fst).length ≤ 1099511627776 := by rw [← hbl]; unfold boxesAt; omega
    rw [hbl] at H ⊢
    generalize (boxesAt b 0).map Prod.fst = bd at hbs hd hbm hnn H ⊢
    refine xmv rfl ?_; refine xex rfl rfl ?_; refine xex rfl rfl ?_; refine xas rfl ?_; refine xas rfl ?_; refine wpList_nil ?_
    refine tn ?_; refine hK11 _ _ ?_; clear hK11 K11; refine sq ?_; intro K12 hK12; refine wp_region_lit ?_; refine xmv rfl ?_; refine xli rfl ?_; refine xmv rfl ?_
    refine wpList_nil ?_; refine tn ?_; refine hK12 _ _ ?_; clear hK12 K12; refine wp_block ?_
    replace H := H.front' [2, 1, 1, 1, 0] rfl rfl
    refine lp4 (α := Nat) (β := TkS) (γ := List Rec) (δ := Option Addr × Nat) (fun j t dm am => [(3, .slice am.1 dm.length am.2), (4, .func (.func 133) #[] #[.pointer (some ⟨b2, 0, none⟩), .pointer (some ⟨b1, 0, none⟩)]), (14, .slice lo bl.length lc), (15, .int .i64 bl.length), (16, .int .i64 i), (25, .slice out bd.length oc), (26, .int .i64 bd.length), (27, .int .i64 j)]) (fun j t dm am => [own am.1 am.2 recT 6 dm.length (recsV dm), imm ξ, blk b2 [.bool t.1] 4, blk b1 [.int .u64 t.2] 22, own out oc 59 1 bd.length vs2]) (fun j t dm am => dm ++ ((segTake t (bd.drop j)).1 ++ segRecs (segTake t (bd.drop j)).2 (bl.drop (i + 1))) = W ∧ j ≤ bd.length) (fun j t dm am => bd.length - j) (0) (s) (dn) ((ao, cap)) ⟨rfl, rfl, rfl, rfl, rfl, rfl, rfl, rfl, True.intro⟩ (⟨by simpa using hd, Nat.zero_le _⟩) H ?_; intro j t dm am ρ w hI H K13 hK13
    obtain ⟨hd2, hj⟩ := hI
    obtain ⟨am1, am2⟩ := am
    simp only at H ⊢
    refine sq ?_; intro K14 hK14; refine wp_region_lit ?_; refine xlt rfl rfl ?_; refine wpList_nil ?_; refine tn ?_; refine hK14 _ _ ?_; clear hK14 K14
    refine sq ?_; intro K15 hK15
    refine if_ rfl (fun k2 => ?_) (fun k2 => ?_)
    · have k2 : j < bd.length := by simpa using k2
      obtain ⟨v, hg2, co, cc, rfl, hcr, hcc⟩ := Fa2.get j k2 hbs
      have hci := hbm _ (List.getElem_mem k2)
      rw [List.drop_eq_getElem_cons k2] at hd2
      generalize bd[j] = c at hcr hcc hci hd2 hg2
      refine wp_skip ?_; refine tn ?_; refine hK15 _ _ ?_; clear hK15 K15; refine sq ?_; intro K16 hK16; refine wp_block ?_; refine sq ?_; intro K17 hK17
      refine wp_region_lit ?_
      refine xi1r (H.front 4 rfl).ownRd hg2 k2 rfl rfl rfl ?_; intro b29 o29 hx29
      refine xld 4 H rfl rfl hx29 ?_
      refine xas rfl ?_; refine wpList_nil ?_; refine tn ?_; refine hK17 _ _ ?_; clear hK17 K17; refine sq ?_; intro K18 hK18; refine wp_region_lit ?_
      refine xmv rfl ?_; refine xmv rfl ?_
      refine xc [1, 1, 1] H ((c_taker1 (imm ξ) co cc c b1 b2 t hcr (by omega))) rfl rfl rfl rfl rfl ?_; rintro _ _ w ⟨rfl, rfl⟩ H; replace H := H.ap rfl
      refine xmv rfl ?_; refine xex rfl rfl ?_; refine xex rfl rfl ?_; refine xal H ?_; intro b11 w H
      (refine xsta 0 H rfl rfl rfl rfl rfl rfl ?_; intro w H)
      refine xas rfl ?_; refine wpList_nil ?_; refine tn ?_; refine hK18 _ _ ?_; clear hK18 K18; refine sq ?_; intro K19 hK19; refine sq ?_; intro K20 hK20
      refine wp_region_lit ?_; refine xmv rfl ?_; refine xnt rfl ?_; refine wpList_nil ?_; refine tn ?_; refine hK20 _ _ ?_; clear hK20 K20
      refine if_ rfl (fun k3 => ?_) (fun k3 => ?_)
      · have k3 : (takeS t c).1 = none := by simpa using k3
        rw [segTake_none k3] at hd2
        refine wp_exit ?_; refine te ?_; clear hK19 K19; refine bo rfl ?_; refine te ?_; clear hK16 K16; refine te ?_; clear hK13 K13; refine be ?_; refine bn ?_
        refine tn ?_; refine hK9 _ _ ?_; clear hK9 K9; refine wp_region_lit ?_
        refine xadi rfl rfl (wi64 (by omega)) ?_
        refine xmv rfl ?_; refine wpList_nil ?_
        replace H := H.keeps [4, 1, 1, 1] rfl
        refine tn ?_; refine hK6 _ _ (i + 1) ((takeS t c).2) (dm) ((ξ, am1, am2)) ⟨rfl, rfl, rfl, rfl, rfl, True.intro⟩ ?_ H ?_
        · exact ⟨by simpa using hd2, k1, hmx⟩
        · omega
      · have k3 : ∃ r, (takeS t c).1 = some r := by
          cases h : (takeS t c).1 with
          | none => rw [h] at k3; simp at k3
          | some r => exact ⟨r, rfl⟩
        obtain ⟨r, k3⟩ := k3
        rw [segTake_some k3] at hd2
        rw [k3] at H ⊢
        have hlt : dm.length < W.length := by rw [← hd2]; simp
        simp only [Option.getD_some] at H ⊢
        refine wp_skip ?_; refine tn ?_; refine hK19 _ _ ?_; clear hK19 K19; refine wp_region_lit ?_; refine xmv rfl ?_
        refine xldab 0 H rfl rfl rfl rfl ?_
        refine xbs H rfl rfl rfl (by simp [Value.cells] <;> rfl) rfl rfl ?_; intro b41 w H
        refine xap 5 H rfl rfl rfl (src_at (news := recV r) 0 H rfl (St.ownRd H) rfl) (recV_one _) (by omega) (by simp only [maxLen]; omega) ?_; intro ao42 cap42 w H hn42
        refine xas rfl ?_; refine wpList_nil ?_; refine bn ?_; refine tn ?_; refine hK16 _ _ ?_; clear hK16 K16; refine wp_region_lit ?_
        refine xadi rfl rfl (wi64 (by omega)) ?_
        refine xmv rfl ?_; refine wpList_nil ?_
        have e1 : recsV dm ++ recV r = recsV (dm ++ [r]) := by simp [recsV]
        have e2 : dm.length + 1 = (dm ++ [r]).length := by simp
        rw [e1, e2] at H
        rw [e2]
        replace H := H.keeps [0, 2, 2, 2, 2] rfl
        refine tn ?_; refine hK13 _ _ (j + 1) ((takeS t c).2) (dm ++ [r]) ((ao42, cap42)) ⟨rfl, rfl, rfl, rfl, rfl, rfl, rfl, rfl, True.intro⟩ ?_ H ?_
        · exact ⟨by rw [← hd2]; simp, k2⟩
        · omega
    · have k2 : j = bd.length := by have := of_decide_eq_false k2; omega
      subst k2
      rw [List.drop_length] at hd2
      refine wp_exit ?_; refine te ?_; clear hK15 K15; refine te ?_; clear hK13 K13; refine be ?_; refine bn ?_; refine tn ?_; refine hK9 _ _ ?_; clear hK9 K9
      refine wp_region_lit ?_
      refine xadi rfl rfl (wi64 (by omega)) ?_
      refine xmv rfl ?_; refine wpList_nil ?_
      replace H := H.keeps [0, 0, 0, 0] rfl
      refine tn ?_; refine hK6 _ _ (i + 1) (t) (dm) ((ξ, am1, am2)) ⟨rfl, rfl, rfl, rfl, rfl, True.intro⟩ ?_ H ?_
      · exact ⟨by simpa [segTake] using hd2, k1, hmx⟩
      · omega
  · have k1 : i = bl.length := by have := of_decide_eq_false k1; omega
    subst k1
    rw [List.drop_length] at hd
    have hd : dn = W := by simpa [segRecs] using hd
    subst hd
    refine wp_exit ?_; refine te ?_; clear hK8 K8; refine te ?_; clear hK6 K6; refine be ?_; refine tn ?_; refine hK4 _ _ ?_; clear hK4 K4
    refine sq ?_; intro K9 hK9; refine wp_region_lit ?_; refine xmv rfl ?_; refine xas rfl ?_; refine wpList_nil ?_; refine tn ?_; refine hK9 _ _ ?_; clear hK9 K9
    refine wp_ret ?_
    replace H := H.keeps [0, 0] rfl; refine hQ _ _ _ ?_; refine r1 rfl rfl H ?_
    exact ⟨ν, ao, cap, hμ, rfl, rfl⟩
end Go.Proofs.YtegllbmkkfnajaaGreatDoor
end
section
namespace Go.Proofs.YtegllbmkkfnajaaGreatDoor
open Go Go.Proofs
attribute [local irreducible] Go.wpList Go.Code.wp St Fn mk
set_option maxRecDepth 20000
abbrev batT : Nat := 82
def batC (b : Nat) (bs : List UInt8) : Asn := exv (fun _ : Option Addr × Nat => True) fun q => [blk b [.slice q.1 bs.length q.2] batT, own q.1 q.2 5 1 bs.length (bv bs)]
theorem St.unbat {g : Gh} {w : World} {L : List Asn} {b : Nat} {bs : List UInt8} (H : St g w (batC b bs :: L)) :
    ∃ ao cap, St g w (blk b [.slice ao bs.length cap] batT :: own ao cap 5 1 bs.length (bv bs) :: L) := by
  obtain ⟨⟨ao, cap⟩, _, H⟩ := H.unexv
  exact ⟨ao, cap, H⟩
theorem St.tobat {g : Gh} {w : World} {L : List Asn} {b cap : Nat} {ao : Option Addr} {bs : List UInt8} (H : St g w (blk b [.slice ao bs.length cap] batT :: own ao cap 5 1 bs.length (bv bs) :: L)) : St g w (batC b bs :: L) :=
  St.toexv (ao, cap) True.intro H
theorem segBox_err {r : Rec} {e : Int} (h : segBox r = .error e) : e ≠ 0 := by
  unfold segBox at h
  cases hr : recEnc r with
  | error e' =>
    rw [hr] at h; cases h
    unfold recEnc at hr
    split at hr
    · rename_i h1; cases hr; exact h1
    · cases hr
  | ok b =>
    rw [hr] at h
    simp only [boxB] at h
    split at h
    · cases h; decide
    split at h
    · cases h; decide
    · cases h
theorem segBox_len {r : Rec} {b : List UInt8} (h : segBox r = .ok b) : b.length ≤ 5000 := by
  unfold segBox at h
  cases hr : recEnc r with
  | error e' => rw [hr] at h; cases h
  | ok c =>
    rw [hr] at h
    simp only [boxB] at h
    split at h
    · cases h
    split at h
    · cases h
    · cases h
      rw [sealB_len]; unfold boxIn; rw [List.length_append, leB_len]; omega
def addR (r : Rec) (bs : List UInt8) : Int × List UInt8 := match segBox r with | .error e => (e, bs) | .ok b => (0, bs ++ b)
theorem c_badd (b : Nat) (r : Rec) (bs : List UInt8) (hr : r.ok) (hl : bs.length ≤ 1099511620000) :
    Fn Tryz.prog 41 [.pointer (some ⟨b, 0, none⟩), .agg (recV r).toArray] [batC b bs] (Ret fun v L => v = .int .i64 (addR r bs).1 ∧ L = [batC b (addR r bs).2]) := by
  have hc := c_segbox r hr
  refine Fn.intro Tryz.call41 Tryz.func41 rfl Tryz.ntmps41 rfl ?_; intro g w Q hQ H
  refine sq ?_; intro K1 hK1; refine wp_region_lit ?_; refine xbx H rfl rfl ?_; intro b3 w H; refine xas rfl ?_; refine wpList_nil ?_
  refine tn ?_; refine hK1 _ _ ?_; clear hK1 K1; refine sq ?_; intro K2 hK2; refine wp_region_lit ?_
  refine xldab 0 H rfl rfl rfl rfl ?_
  cases hb : segBox r with | error e => ?_ | ok x => ?_
  · rw [hb] at hc
    have he := segBox_err hb
    have hx : addR r bs = (e, bs) := by unfold addR; rw [hb]
    refine xc [] H (hc) rfl rfl rfl rfl rfl ?_; rintro _ _ w ⟨rfl, rfl⟩ H; replace H := H.ap rfl
    refine xmv rfl ?_; refine xex rfl rfl ?_; refine xex rfl rfl ?_; refine xas rfl ?_; refine xas rfl ?_; refine wpList_nil ?_
    refine tn ?_; refine hK2 _ _ ?_; clear hK2 K2; refine sq ?_; intro K3 hK3; refine sq ?_; intro K4 hK4; refine wp_region_lit ?_; refine xmv rfl ?_
    refine xeq rfl rfl ?_; refine wpList_nil ?_; refine tn ?_; refine hK4 _ _ ?_; clear hK4 K4
    refine if_ rfl (fun h1 => ?_) (fun h1 => ?_)
    · exact absurd (by simpa using h1) he
    · refine wp_skip ?_; refine tn ?_; refine hK3 _ _ ?_; clear hK3 K3; refine sq ?_; intro K5 hK5; refine wp_region_lit ?_; refine xmv rfl ?_; refine xas rfl ?_
      refine wpList_nil ?_; refine tn ?_; refine hK5 _ _ ?_; clear hK5 K5; refine wp_ret ?_
      replace H := H.keeps [1] rfl; refine hQ _ _ _ ?_; refine r1 rfl rfl H ?_
      rw [hx]; exact ⟨rfl, rfl⟩
  · rw [hb] at hc
    have hxl := segBox_len hb
    have hx : addR r bs = (0, bs ++ x) := by unfold addR; rw [hb]
    refine xc [] H (hc) rfl rfl rfl rfl rfl ?_; rintro _ _ w ⟨ao1, cap1, rfl, rfl⟩ H; replace H := H.ap rfl
    obtain ⟨ao, cap, H⟩ := (H.front' [2] rfl rfl).unbat
    refine xmv rfl ?_; refine xex rfl rfl ?_; refine xex rfl rfl ?_; refine xas rfl ?_; refine xas rfl ?_; refine wpList_nil ?_
    refine tn ?_; refine hK2 _ _ ?_; clear hK2 K2; refine sq ?_; intro K3 hK3; refine sq ?_; intro K4 hK4; refine wp_region_lit ?_; refine xmv rfl ?_
    refine xeq rfl rfl ?_; refine wpList_nil ?_; refine tn ?_; refine hK4 _ _ ?_; clear hK4 K4; refine ift rfl ?_; refine wp_region_lit ?_; refine xmv rfl ?_
    refine xmv rfl ?_
    refine xnc rfl ?_
    refine xfa rfl ?_
    refine xldb 0 H rfl rfl rfl ?_
    refine xmv rfl ?_
    refine xap 1 H rfl rfl rfl (src_at (news := bv x) 2 H rfl (H.front' [2] rfl rfl).ownRd (by simp)) (bv_one _) (by omega) (by simp only [maxLen]; omega) ?_; intro ao20 cap20 w H hn20
    have e : bs.length + x.length = (bs ++ x).length := by simp
    rw [e, ← bv_append] at H
    rw [e]
    refine xnc rfl ?_
    refine xfa rfl ?_
    (refine xst 1 H rfl rfl rfl rfl rfl ?_; intro w H)
    refine wpList_nil ?_; refine tn ?_; refine hK3 _ _ ?_; clear hK3 K3; refine sq ?_; intro K5 hK5; refine wp_region_lit ?_; refine xmv rfl ?_; refine xas rfl ?_
    refine wpList_nil ?_; refine tn ?_; refine hK5 _ _ ?_; clear hK5 K5; refine wp_ret ?_
    replace H := St.tobat H
    replace H := H.keeps [0] rfl; refine hQ _ _ _ ?_; refine r1 rfl rfl H ?_
    rw [hx]; exact ⟨rfl, rfl⟩
def gatherR : List Rec → List UInt8 → Int × List UInt8
  | [], bs => (0, bs)
  | r :: l, bs => if (addR r bs).1 ≠ 0 then addR r bs else gatherR l (addR r bs).2
theorem addR_len (r : Rec) (bs : List UInt8) : (addR r bs).2.length ≤ bs.length + 5000 := by
  unfold addR
  cases hb : segBox r with
  | error e => simp
  | ok x => have := segBox_len hb; simp; omega
theorem c_gather (A : Asn) (b : Nat) (wo : Option Addr) (wc : Nat) (l : List Rec) (hr : Rd A wo (recsV l)) (hok : ∀ r ∈ l, r.ok) (hl : l.length ≤ 200000000) :
    Fn Tryz.prog 40 [.slice wo l.length wc, .func (.func 41) #[.pointer (some ⟨b, 0, none⟩)] #[]] [A, batC b []] (Ret fun v L => v = .int .i64 (gatherR l []).1 ∧ L = [A, batC b (gatherR l []).2]) := by
  obtain ⟨R, hR⟩ : ∃ R, gatherR l [] = R := ⟨_, rfl⟩
  rw [hR]
  refine Fn.intro Tryz.call40 Tryz.func40 rfl Tryz.ntmps40 rfl ?_; intro g w Q hQ H
  refine sq ?_; intro K1 hK1; refine wp_region_lit ?_; refine xas rfl ?_; refine wpList_nil ?_; refine tn ?_; refine hK1 _ _ ?_; clear hK1 K1
  refine sq ?_; intro K2 hK2; refine sq ?_; intro K3 hK3; refine wp_region_lit ?_; refine xmv rfl ?_; refine xli rfl ?_; refine xmv rfl ?_; refine wpList_nil ?_
  refine tn ?_; refine hK3 _ _ ?_; clear hK3 K3; refine wp_block ?_
  refine lp2 (α := Nat) (β := List UInt8) (fun k bs => [(1, .func (.func 41) #[.pointer (some ⟨b, 0, none⟩)] #[]), (8, .slice wo l.length wc), (9, .int .i64 l.length), (10, .int .i64 k)]) (fun k bs => [A, batC b bs]) (fun k bs => gatherR (l.drop k) bs = R ∧ k ≤ l.length ∧ bs.length ≤ k * 5000) (fun k bs => l.length - k) (0) ([]) ⟨rfl, rfl, rfl, rfl, True.intro⟩ (⟨hR, Nat.zero_le _, Nat.zero_le _⟩) H ?_; intro k bs ρ w hI H K4 hK4
  obtain ⟨hg, hk, hbl⟩ := hI
  refine sq ?_; intro K5 hK5; refine wp_region_lit ?_; refine xlt rfl rfl ?_; refine wpList_nil ?_; refine tn ?_; refine hK5 _ _ ?_; clear hK5 K5
  refine sq ?_; intro K6 hK6
  refine if_ rfl (fun k1 => ?_) (fun k1 => ?_)
  · have k1 : k < l.length := by simpa using k1
    have hgk : l[k]? = some l[k] := List.getElem?_eq_getElem k1
    have hokk := hok _ (List.getElem_mem k1)
    rw [List.drop_eq_getElem_cons k1] at hg
    generalize l[k] = r at hgk hokk hg
    have hal := addR_len r bs
    refine wp_skip ?_; refine tn ?_; refine hK6 _ _ ?_; clear hK6 K6; refine sq ?_; intro K7 hK7; refine wp_block ?_; refine sq ?_; intro K8 hK8
    refine wp_region_lit ?_
    refine xiar hr (flat_get recV_len hgk) (by simp [recV]) k1 rfl rfl rfl ?_; intro b12 o12 hx12
    refine xlda 0 H rfl rfl hx12 rfl ?_
    refine xal H ?_; intro b6 w H
    (refine xsta 0 H rfl rfl rfl rfl rfl rfl ?_; intro w H)
    refine wpList_nil ?_; refine tn ?_; refine hK8 _ _ ?_; clear hK8 K8; refine sq ?_; intro K9 hK9; refine wp_region_lit ?_; refine xmv rfl ?_
    refine xldab 0 H rfl rfl rfl rfl ?_
    refine xc [2] H ((c_badd b r bs hokk (by omega))) rfl rfl rfl rfl rfl ?_; rintro _ _ w ⟨rfl, rfl⟩ H; replace H := H.ap rfl
    refine xas rfl ?_; refine wpList_nil ?_; refine tn ?_; refine hK9 _ _ ?_; clear hK9 K9; refine sq ?_; intro K10 hK10; refine wp_region_lit ?_; refine xmv rfl ?_
    refine xne rfl rfl ?_; refine wpList_nil ?_; refine tn ?_; refine hK10 _ _ ?_; clear hK10 K10
    refine if_ rfl (fun k2 => ?_) (fun k2 => ?_)
    · have k2 : (addR r bs).1 ≠ 0 := by simpa using k2
      simp only [gatherR] at hg
      rw [if_pos k2] at hg
      refine sq ?_; intro K11 hK11; refine wp_region_lit ?_; refine xmv rfl ?_; refine xas rfl ?_; refine wpList_nil ?_
      refine tn ?_; refine hK11 _ _ ?_; clear hK11 K11; refine wp_ret ?_; refine br ?_; refine tr ?_; clear hK7 K7; refine tr ?_; clear hK4 K4; refine br ?_
      refine tr ?_; clear hK2 K2
      replace H := H.keeps [2, 0] rfl; refine hQ _ _ _ ?_; refine r1 rfl rfl H ?_
      rw [← hg]; exact ⟨rfl, rfl⟩
    · have k2 : ¬ (addR r bs).1 ≠ 0 := by simpa using k2
      simp only [gatherR] at hg
      rw [if_neg k2] at hg
      refine wp_skip ?_; refine bn ?_; refine tn ?_; refine hK7 _ _ ?_; clear hK7 K7; refine wp_region_lit ?_
      refine xadi rfl rfl (wi64 (by omega)) ?_
      refine xmv rfl ?_; refine wpList_nil ?_
      replace H := H.keeps [2, 0] rfl
      refine tn ?_; refine hK4 _ _ (k + 1) ((addR r bs).2) ⟨rfl, rfl, rfl, rfl, True.intro⟩ ?_ H ?_
      · exact ⟨hg, k1, by omega⟩
      · omega
  · have k1 : k = l.length := by have := of_decide_eq_false k1; omega
    subst k1
    rw [List.drop_length] at hg
    simp only [gatherR] at hg
    refine wp_exit ?_; refine te ?_; clear hK6 K6; refine te ?_; clear hK4 K4; refine be ?_; refine tn ?_; refine hK2 _ _ ?_; clear hK2 K2
    refine sq ?_; intro K7 hK7; refine wp_region_lit ?_; refine xas rfl ?_; refine wpList_nil ?_; refine tn ?_; refine hK7 _ _ ?_; clear hK7 K7; refine wp_ret ?_
    refine hQ _ _ _ ?_; refine r1 rfl rfl H ?_
    rw [← hg]; exact ⟨rfl, rfl⟩
end Go.Proofs.YtegllbmkkfnajaaGreatDoor
end
section
namespace Go.Proofs.YtegllbmkkfnajaaGreatDoor
open Go Go.Proofs
attribute [local irreducible] Go.wpList Go.Code.wp St Fn mk
set_option maxRecDepth 20000
structure Wal where
  own : Nat
  next : Nat
  sure : Nat
  waits : List Rec
abbrev logT : Nat := 80
def logV (W : Wal) (db : Nat) (wo : Option Addr) (wc : Nat) : List Value := [.pointer (some ⟨db, 0, none⟩), .int .u64 W.own, .int .u64 W.next, .int .u64 W.sure, .slice wo W.waits.length wc]
def logC (b db : Nat) (W : Wal) : Asn := exv (fun _ : Option Addr × Nat => True) fun q => [blk b (logV W db q.1 q.2) logT, own q.1 q.2 recT 6 W.waits.length (recsV W.waits)]
theorem St.unlog {g : Gh} {w : World} {L : List Asn} {b db : Nat} {W : Wal} (H : St g w (logC b db W :: L)) :
    ∃ wo wc, St g w (blk b (logV W db wo wc) logT :: own wo wc recT 6 W.waits.length (recsV W.waits) :: L) := by
  obtain ⟨⟨wo, wc⟩, _, H⟩ := H.unexv
  exact ⟨wo, wc, H⟩
theorem St.tolog {g : Gh} {w : World} {L : List Asn} {b db wc : Nat} {wo : Option Addr} {W : Wal} (H : St g w (blk b (logV W db wo wc) logT :: own wo wc recT 6 W.waits.length (recsV W.waits) :: L)) : St g w (logC b db W :: L) :=
  St.toexv (wo, wc) True.intro H
structure Wal.ok (W : Wal) : Prop where
  own : W.own < 18446744073709551616
  next : W.next < 18446744073709551616
  sure : W.sure < 18446744073709551616
  waits : ∀ r ∈ W.waits, r.ok
  few : W.waits.length ≤ 200000000
theorem c_wnext (b db : Nat) (W : Wal) : Fn Tryz.prog 27 [.pointer (some ⟨b, 0, none⟩)] [logC b db W] (Ret fun v L => v = .int .u64 W.next ∧ L = [logC b db W]) := by
  refine Fn.intro Tryz.call27 Tryz.func27 rfl Tryz.ntmps27 rfl ?_; intro g w Q hQ H
  obtain ⟨wo, wc, H⟩ := H.unlog
  refine sq ?_; intro K1 hK1; refine wp_region_lit ?_; refine xas rfl ?_; refine wpList_nil ?_; refine tn ?_; refine hK1 _ _ ?_; clear hK1 K1
  refine sq ?_; intro K2 hK2; refine sq ?_; intro K3 hK3; refine wp_region_lit ?_; refine xmv rfl ?_; refine xpns rfl rfl ?_; refine wpList_nil ?_
  refine tn ?_; refine hK3 _ _ ?_; clear hK3 K3; refine iff_ rfl ?_; refine wp_skip ?_; refine tn ?_; refine hK2 _ _ ?_; clear hK2 K2; refine sq ?_; intro K4 hK4
  refine wp_region_lit ?_; refine xmv rfl ?_
  refine xnc rfl ?_
  refine xfa rfl ?_
  refine xldb 0 H rfl rfl rfl ?_
  refine xas rfl ?_; refine wpList_nil ?_; refine tn ?_; refine hK4 _ _ ?_; clear hK4 K4; refine wp_ret ?_
  replace H := St.tolog H
  refine hQ _ _ _ ?_; refine r1 rfl rfl H ?_
  exact ⟨rfl, rfl⟩
def putW (W : Wal) (r : Rec) : (Nat × Int) × Wal :=
  match segBox { r with seq := W.next } with
  | .error e => ((0, e), W)
  | .ok _ => ((W.next, 0), { W with waits := W.waits ++ [{ r with seq := W.next }], next := (W.next + 1) % 18446744073709551616 })
theorem c_wput (b db : Nat) (W : Wal) (r : Rec) (hW : W.ok) (hr : r.ok) :
    Fn Tryz.prog 33 [.pointer (some ⟨b, 0, none⟩), .agg (recV r).toArray] [logC b db W] (Ret fun v L => v = .tuple #[.int .u64 (putW W r).1.1, .int .i64 (putW W r).1.2] ∧ L = [logC b db (putW W r).2]) := by
  have hr' : ({ r with seq := W.next } : Rec).ok := ⟨hW.next, hr.2, hr.3, hr.4, hr.5⟩
  have hc := c_segbox { r with seq := W.next } hr'
  have hnx := hW.next
  have hfew := hW.few
  refine Fn.intro Tryz.call33 Tryz.func33 rfl Tryz.ntmps33 rfl ?_; intro g w Q hQ H
  obtain ⟨wo, wc, H⟩ := H.unlog
  refine sq ?_; intro K1 hK1; refine wp_region_lit ?_; refine xbx H rfl rfl ?_; intro b3 w H; refine xas rfl ?_; refine xas rfl ?_; refine wpList_nil ?_
  refine tn ?_; refine hK1 _ _ ?_; clear hK1 K1; refine sq ?_; intro K2 hK2; refine sq ?_; intro K3 hK3; refine wp_region_lit ?_; refine xmv rfl ?_
  refine xpns rfl rfl ?_; refine wpList_nil ?_; refine tn ?_; refine hK3 _ _ ?_; clear hK3 K3; refine iff_ rfl ?_; refine wp_skip ?_
  refine tn ?_; refine hK2 _ _ ?_; clear hK2 K2; refine sq ?_; intro K4 hK4; refine wp_region_lit ?_; refine xmv rfl ?_
  refine xnc rfl ?_
  refine xfa rfl ?_
  refine xldb 1 H rfl rfl rfl ?_
  refine xfa rfl ?_
  (refine xst 0 H rfl rfl rfl rfl rfl ?_; intro w H)
  refine wpList_nil ?_; refine tn ?_; refine hK4 _ _ ?_; clear hK4 K4; refine sq ?_; intro K5 hK5; refine sq ?_; intro K6 hK6; refine wp_region_lit ?_
  refine xldab 0 H rfl rfl rfl rfl ?_
  cases hb : segBox { r with seq := W.next } with | error e => ?_ | ok x => ?_
  · rw [hb] at hc
    have he := segBox_err hb
    have hx : putW W r = ((0, e), W) := by unfold putW; rw [hb]
    refine xc [] H (hc) rfl rfl rfl rfl rfl ?_; rintro _ _ w ⟨rfl, rfl⟩ H; replace H := H.ap rfl
    refine xmv rfl ?_; refine xex rfl rfl ?_; refine xex rfl rfl ?_; refine xas rfl ?_; refine xas rfl ?_; refine wpList_nil ?_
    refine tn ?_; refine hK6 _ _ ?_; clear hK6 K6; refine sq ?_; intro K7 hK7; refine wp_region_lit ?_; refine xmv rfl ?_; refine xne rfl rfl ?_
    refine wpList_nil ?_; refine tn ?_; refine hK7 _ _ ?_; clear hK7 K7
    refine if_ rfl (fun h1 => ?_) (fun h1 => ?_)
    · refine sq ?_; intro K8 hK8; refine wp_region_lit ?_; refine xmv rfl ?_; refine xas rfl ?_; refine xas rfl ?_; refine wpList_nil ?_
      refine tn ?_; refine hK8 _ _ ?_; clear hK8 K8; refine wp_ret ?_; refine tr ?_; clear hK5 K5
      replace H := St.tolog (H.front' [1, 1] rfl rfl)
      replace H := H.keeps [0] rfl; refine hQ _ _ _ ?_; refine r2 rfl rfl rfl H ?_
      rw [hx]; exact ⟨rfl, rfl⟩
    · exact absurd (by simpa using h1) he
  · rw [hb] at hc
    have hx : putW W r = ((W.next, 0), { W with waits := W.waits ++ [{ r with seq := W.next }], next := (W.next + 1) % 18446744073709551616 }) := by unfold putW; rw [hb]
    refine xc [] H (hc) rfl rfl rfl rfl rfl ?_; rintro _ _ w ⟨ao1, cap1, rfl, rfl⟩ H; replace H := H.ap rfl
    replace H := H.drop
    refine xmv rfl ?_; refine xex rfl rfl ?_; refine xex rfl rfl ?_; refine xas rfl ?_; refine xas rfl ?_; refine wpList_nil ?_
    refine tn ?_; refine hK6 _ _ ?_; clear hK6 K6; refine sq ?_; intro K7 hK7; refine wp_region_lit ?_; refine xmv rfl ?_; refine xne rfl rfl ?_
    refine wpList_nil ?_; refine tn ?_; refine hK7 _ _ ?_; clear hK7 K7; refine iff_ rfl ?_; refine wp_skip ?_; refine tn ?_; refine hK5 _ _ ?_; clear hK5 K5
    refine sq ?_; intro K8 hK8
    refine drwk (m := 11) [0, 0] 10 rfl rfl rfl H ?_; clear H; intro w H
    refine dt' 0 rfl (by kernel_rfl) (by exact H.keeps [0, 0] rfl) (ymv rfl) ?_
    refine dt' 1 rfl (by kernel_rfl) (by exact H.keeps [0, 0] rfl) (ymv rfl) ?_
    refine dt' 2 rfl (by kernel_rfl) (by exact H.keeps [0, 0] rfl) (ync rfl) ?_
    refine dt' 3 rfl (by kernel_rfl) (by exact H.keeps [0, 0] rfl) (yfa rfl) ?_
    refine dt 4 rfl (by kernel_rfl) (by exact H.keeps [0, 0] rfl) (zldb 1 rfl rfl rfl) ?_
    refine dt 5 rfl (by kernel_rfl) (by exact H.keeps [0, 0] rfl) (zldab 0 rfl rfl rfl rfl) ?_
    refine do1 6 rfl (by kernel_rfl) ?_; intro K9 hK9; refine xbs H rfl rfl rfl (by simp [Value.cells] <;> rfl) rfl rfl ?_; intro b29 w H
    refine wpList_nil ?_; refine tn ?_; refine hK9 _ _ (fun _ => (by exact H.keeps [1, 1] rfl)) ?_; clear hK9 K9
    refine do1 7 rfl (by kernel_rfl) ?_; intro K10 hK10
    refine xap 3 H rfl rfl rfl (src_at (news := recV { r with seq := W.next }) 0 H rfl (St.ownRd H) rfl) (recV_one _) (by omega) (by simp only [maxLen]; omega) ?_; intro ao30 cap30 w H hn30
    refine wpList_nil ?_; refine tn ?_; refine hK10 _ _ (fun _ => (by exact H.keeps [2, 2] rfl)) ?_; clear hK10 K10
    refine do1 8 rfl (by kernel_rfl) ?_; intro K11 hK11
    refine xnc rfl ?_
    refine wpList_nil ?_; refine tn ?_; refine hK11 _ _ (fun _ => (by exact H.keeps [2, 2] rfl)) ?_; clear hK11 K11
    refine dt' 9 rfl (by kernel_rfl) (by exact H.keeps [2, 2] rfl) (yfa rfl) ?_
    refine do1 10 rfl (by kernel_rfl) ?_; intro K12 hK12
    (refine xst 3 H rfl rfl rfl rfl rfl ?_; intro w H)
    refine wpList_nil ?_; refine tn ?_; refine hK12 _ _ (fun h => absurd rfl h) ?_; clear hK12 K12; refine dd (by kernel_rfl) ?_
    refine tn ?_; refine hK8 _ _ ?_; clear hK8 K8; refine sq ?_; intro K13 hK13; refine wp_region_lit ?_; refine xmv rfl ?_
    refine xnc rfl ?_
    refine xfa rfl ?_
    refine xldb 0 H rfl rfl rfl ?_
    refine xadm_u64 (b := 1) rfl rfl ?_
    refine xnc rfl ?_
    refine xfa rfl ?_
    (refine xst 0 H rfl rfl rfl rfl rfl ?_; intro w H)
    refine wpList_nil ?_; refine tn ?_; refine hK13 _ _ ?_; clear hK13 K13; refine sq ?_; intro K14 hK14; refine wp_region_lit ?_; refine xfa rfl ?_
    refine xldb 3 H rfl rfl rfl ?_
    refine xas rfl ?_; refine xas rfl ?_; refine wpList_nil ?_; refine tn ?_; refine hK14 _ _ ?_; clear hK14 K14; refine wp_ret ?_
    have e1 : recsV W.waits ++ recV { r with seq := W.next } = recsV (W.waits ++ [{ r with seq := W.next }]) := by simp [recsV]
    have e2 : W.waits.length + 1 = (W.waits ++ [{ r with seq := W.next }]).length := by simp
    rw [e1, e2] at H
    replace H := St.tolog (W := { W with waits := W.waits ++ [{ r with seq := W.next }], next := (W.next + 1) % 18446744073709551616 }) (H.front' [0, 0] rfl rfl)
    replace H := H.keeps [0] rfl; refine hQ _ _ _ ?_; refine r2 rfl rfl rfl H ?_
    rw [hx]; exact ⟨rfl, rfl⟩
end Go.Proofs.YtegllbmkkfnajaaGreatDoor
end
section
namespace Go.Proofs.YtegllbmkkfnajaaGreatDoor
open Go Go.Proofs
def sumD (l : List DFile) : Nat := (l.map fun f => f.data.length).sum
theorem sumD_cons (f : DFile) (l : List DFile) : sumD (f :: l) = f.data.length + sumD l := by simp [sumD]
theorem fput_mem {l : List DFile} {f x : DFile} (h : x ∈ fput l f) : x = f ∨ x ∈ l := by
  induction l with
  | nil => simp [fput] at h; exact .inl h
  | cons g l ih =>
    simp only [fput] at h
    split at h
    · rcases List.mem_cons.1 h with h | h
      · exact .inl h
      · exact .inr (List.mem_cons_of_mem _ h)
    · rcases List.mem_cons.1 h with h | h
      · exact .inr (by rw [h]; exact List.mem_cons_self ..)
      · rcases ih h with h | h
        · exact .inl h
        · exact .inr (List.mem_cons_of_mem _ h)
theorem fput_names (f : DFile) : ∀ l : List DFile, (fput l f).map DFile.name = if f.name ∈ l.map DFile.name then l.map DFile.name else l.map DFile.name ++ [f.name]
  | [] => by simp [fput]
  | g :: l => by
    simp only [fput]
    split
    · rename_i h; simp [h]
    · rename_i h
      have ih := fput_names f l
      simp only [List.map_cons, ih, List.mem_cons]
      by_cases h2 : f.name ∈ l.map DFile.name
      · rw [if_pos h2, if_pos (.inr h2)]
      · rw [if_neg h2, if_neg (fun h3 => by rcases h3 with h3 | h3; exact h h3.symm; exact h2 h3)]; rfl
theorem fput_nodup {l : List DFile} {f : DFile} (h : (l.map DFile.name).Nodup) : ((fput l f).map DFile.name).Nodup := by
  rw [fput_names]
  split
  · exact h
  · rename_i h2
    rw [List.nodup_append]
    refine ⟨h, by simp, ?_⟩
    intro a ha b hb
    simp at hb; subst hb
    intro e; subst e; exact h2 ha
theorem fput_sum (f : DFile) : ∀ l : List DFile, sumD (fput l f) + (match fget l f.name with | some g => g.data.length | none => 0) = sumD l + f.data.length
  | [] => by simp [fput, fget, sumD]
  | g :: l => by
    simp only [fput, fget]
    by_cases h : g.name = f.name
    · rw [if_pos h, if_pos h]; simp only [sumD_cons]; omega
    · rw [if_neg h, if_neg h]; have := fput_sum f l; simp only [sumD_cons]; omega
theorem fget_mem {l : List DFile} {n : List UInt8} {f : DFile} (h : fget l n = some f) : f ∈ l ∧ f.name = n := by
  induction l with
  | nil => cases h
  | cons g l ih =>
    simp only [fget] at h
    split at h
    · rename_i h2; cases h; exact ⟨List.mem_cons_self .., h2⟩
    · exact ⟨List.mem_cons_of_mem _ (ih h).1, (ih h).2⟩
theorem addD_ok {D : Dsk} {n b : List UInt8} (h : D.ok) (hb : b.length ≤ D.cap - D.size) : (addD D n b).ok := by
  have hsz := h.size
  refine ⟨fput_nodup h.names, ?_, ?_, h.cap, h.calls, h.left, h.keep⟩
  · intro f hf
    unfold addD addF at hf; simp only at hf
    rcases fput_mem hf with rfl | hf
    · cases hg : fget D.files n with
      | none => simp
      | some g => have := h.sure g (fget_mem hg).1; simp; omega
    · exact h.sure f hf
  · unfold addD addF
    show sumD (fput D.files _) ≤ D.cap
    have hs : sumD D.files = D.size := rfl
    cases hg : fget D.files n with
    | none =>
      have := fput_sum ⟨n, b, 0⟩ D.files
      simp only at this ⊢; omega
    | some g =>
      have hn := (fget_mem hg).2
      have := fput_sum { g with data := g.data ++ b } D.files
      simp only [hn, hg, List.length_append] at this ⊢; omega
theorem appendD_ok {D : Dsk} {n b : List UInt8} (h : D.ok) : (appendD D n b).2.ok := by
  have h1 := beginD_ok h
  unfold appendD
  split
  · exact h1
  split
  · exact h1
  split
  · exact h1
  split
  · exact h1
  · exact addD_ok h1 (by omega)
theorem syncD_ok {D : Dsk} {n : List UInt8} (h : D.ok) : (syncD D n).2.ok := by
  have h1 := beginD_ok h
  unfold syncD
  split
  · exact h1
  split
  · exact h1
  split
  · exact h1
  · rename_i f hf
    have hm := fget_mem hf
    refine ⟨fput_nodup h1.names, ?_, ?_, h1.cap, h1.calls, h1.left, h1.keep⟩
    · intro x hx
      rcases fput_mem hx with rfl | hx
      · simp
      · exact h1.sure x hx
    · have hs := h1.size
      have := fput_sum { f with sure := f.data.length } (beginD D).2.files
      have hh : fget (beginD D).2.files f.name = some f := by rw [hm.2]; exact hf
      simp only [hh] at this
      show sumD _ ≤ _
      have e : sumD (beginD D).2.files = (beginD D).2.size := rfl
      simp only; omega
end Go.Proofs.YtegllbmkkfnajaaGreatDoor
end
section
namespace Go.Proofs.YtegllbmkkfnajaaGreatDoor
open Go Go.Proofs
attribute [local irreducible] Go.wpList Go.Code.wp St Fn mk
set_option maxRecDepth 20000
def lastSeq (l : List Rec) : Nat := match l.getLast? with | some r => r.seq | none => 0
def commitW (W : Wal) (D : Dsk) : Int × Wal × Dsk :=
  if W.waits.length = 0 then (0, W, D)
  else if (gatherR W.waits []).1 ≠ 0 then ((gatherR W.waits []).1, W, D)
  else if (appendD D (segName W.own) (gatherR W.waits []).2).1 ≠ 0 then ((appendD D (segName W.own) (gatherR W.waits []).2).1, W, (appendD D (segName W.own) (gatherR W.waits []).2).2)
  else if (syncD (appendD D (segName W.own) (gatherR W.waits []).2).2 (segName W.own)).1 ≠ 0 then
    ((syncD (appendD D (segName W.own) (gatherR W.waits []).2).2 (segName W.own)).1, W, (syncD (appendD D (segName W.own) (gatherR W.waits []).2).2 (segName W.own)).2)
  else (0, { W with sure := lastSeq W.waits, waits := [], own := match readD (syncD (appendD D (segName W.own) (gatherR W.waits []).2).2 (segName W.own)).2 (segName W.own) with
      | .ok b => if 256 ≤ b.length then (W.own + 1) % 18446744073709551616 else W.own
      | .error _ => W.own }, (syncD (appendD D (segName W.own) (gatherR W.waits []).2).2 (segName W.own)).2)
theorem gatherR_len : ∀ (l : List Rec) (bs : List UInt8), (gatherR l bs).2.length ≤ bs.length + l.length * 5000
  | [], bs => by simp [gatherR]
  | r :: l, bs => by
    have h1 := addR_len r bs
    simp only [gatherR, List.length_cons]
    split
    · omega
    · have := gatherR_len l (addR r bs).2; omega
theorem recsV_seq {l : List Rec} {k : Nat} {r : Rec} (h : l[k]? = some r) : (recsV l)[k * 6]? = some (.int .u64 r.seq) := by
  have h1 := congrArg (fun c : List Value => c[0]?) (flat_get recV_len h)
  simpa [recV, List.getElem?_take, List.getElem?_drop] using h1
theorem readD_err {D : Dsk} {n : List UInt8} {e : Int} (h : readD D n = .error e) : e ≠ 0 := by
  unfold readD at h
  split at h
  · cases h; decide
  · split at h
    · cases h; decide
    · cases h
theorem c_wcommit (b db : Nat) (W : Wal) (D : Dsk) (hW : W.ok) (hD : D.ok) :
    Fn Tryz.prog 24 [.pointer (some ⟨b, 0, none⟩)] [logC b db W, dskC db D] (Ret fun v L => v = .int .i64 (commitW W D).1 ∧ L = [logC b db (commitW W D).2.1, dskC db (commitW W D).2.2]) := by
  have hfew := hW.few
  have hown := hW.own
  have hgl := gatherR_len W.waits []
  have hap := fun A bo bc hr => c_dappend A db D (segName W.own) (gatherR W.waits []).2 bo bc hr hD (by simp at hgl; omega)
  have hok2 := appendD_ok (n := segName W.own) (b := (gatherR W.waits []).2) hD
  have hsy := c_dsync db (appendD D (segName W.own) (gatherR W.waits []).2).2 (segName W.own) hok2
  have hok3 := syncD_ok (n := segName W.own) hok2
  have hrd := c_dread db (syncD (appendD D (segName W.own) (gatherR W.waits []).2).2 (segName W.own)).2 (segName W.own) hok3
  obtain ⟨C, hC⟩ : ∃ C, commitW W D = C := ⟨_, rfl⟩
  have hCe := hC
  unfold commitW at hC
  rw [hCe]
  refine Fn.intro Tryz.call24 Tryz.func24 rfl Tryz.ntmps24 rfl ?_; intro g w Q hQ H
  obtain ⟨wo, wc, H⟩ := H.unlog
  refine sq ?_; intro K1 hK1; refine wp_region_lit ?_; refine xas rfl ?_; refine wpList_nil ?_; refine tn ?_; refine hK1 _ _ ?_; clear hK1 K1
  refine sq ?_; intro K2 hK2; refine sq ?_; intro K3 hK3; refine wp_region_lit ?_; refine xmv rfl ?_; refine xpns rfl rfl ?_; refine wpList_nil ?_
  refine tn ?_; refine hK3 _ _ ?_; clear hK3 K3; refine iff_ rfl ?_; refine wp_skip ?_; refine tn ?_; refine hK2 _ _ ?_; clear hK2 K2; refine sq ?_; intro K4 hK4
  refine sq ?_; intro K5 hK5; refine wp_region_lit ?_; refine xmv rfl ?_
  refine xnc rfl ?_
  refine xfa rfl ?_
  refine xldb 0 H rfl rfl rfl ?_
  refine xli rfl ?_; refine xeq rfl rfl ?_; refine wpList_nil ?_; refine tn ?_; refine hK5 _ _ ?_; clear hK5 K5
  refine if_ rfl (fun h1 => ?_) (fun h1 => ?_)
  · have h1 : W.waits.length = 0 := by simpa using h1
    rw [if_pos h1] at hC
    refine sq ?_; intro K6 hK6; refine wp_region_lit ?_; refine xas rfl ?_; refine wpList_nil ?_; refine tn ?_; refine hK6 _ _ ?_; clear hK6 K6; refine wp_ret ?_
    refine tr ?_; clear hK4 K4
    replace H := St.tolog H
    refine hQ _ _ _ ?_; refine r1 rfl rfl H ?_
    rw [← hC]; exact ⟨rfl, rfl⟩
  · have h1 : ¬ W.waits.length = 0 := by simpa using h1
    rw [if_neg h1] at hC
    refine wp_skip ?_; refine tn ?_; refine hK4 _ _ ?_; clear hK4 K4; refine sq ?_; intro K6 hK6; refine wp_region_lit ?_; refine xal H ?_; intro b3 w H
    refine wpList_nil ?_; refine tn ?_; refine hK6 _ _ ?_; clear hK6 K6; refine sq ?_; intro K7 hK7; refine sq ?_; intro K8 hK8; refine wp_region_lit ?_
    refine xmv rfl ?_
    refine xnc rfl ?_
    refine xfa rfl ?_
    refine xldb 1 H rfl rfl rfl ?_
    refine xmf rfl rfl ?_
    replace H := H.ownNil 5 1
    replace H : St g w (batC b3 [] :: _) := St.tobat (b := b3) (ao := none) (cap := 0) (bs := []) (H.front' [1, 0] rfl rfl)
    refine xc [2, 0] H ((c_gather (own wo wc recT 6 W.waits.length (recsV W.waits)) b3 wo wc W.waits (H.front' [2] rfl rfl).ownRd hW.waits hfew)) rfl rfl rfl rfl rfl ?_; rintro _ _ w ⟨rfl, rfl⟩ H; replace H := H.ap rfl
    generalize gatherR W.waits [] = G at *
    refine xas rfl ?_; refine wpList_nil ?_; refine tn ?_; refine hK8 _ _ ?_; clear hK8 K8; refine sq ?_; intro K9 hK9; refine wp_region_lit ?_; refine xmv rfl ?_
    refine xne rfl rfl ?_; refine wpList_nil ?_; refine tn ?_; refine hK9 _ _ ?_; clear hK9 K9
    refine if_ rfl (fun h2 => ?_) (fun h2 => ?_)
    · have h2 : G.1 ≠ 0 := by simpa using h2
      rw [if_pos h2] at hC
      refine sq ?_; intro K10 hK10; refine wp_region_lit ?_; refine xmv rfl ?_; refine xas rfl ?_; refine wpList_nil ?_
      refine tn ?_; refine hK10 _ _ ?_; clear hK10 K10; refine wp_ret ?_; refine tr ?_; clear hK7 K7
      replace H := St.tolog (H.front' [2, 0] rfl rfl)
      replace H := H.keeps [0, 1] rfl; refine hQ _ _ _ ?_; refine r1 rfl rfl H ?_
      rw [← hC]; exact ⟨rfl, rfl⟩
    · have h2 : ¬ G.1 ≠ 0 := by simpa using h2
      rw [if_neg h2] at hC
      refine wp_skip ?_; refine tn ?_; refine hK7 _ _ ?_; clear hK7 K7; refine sq ?_; intro K10 hK10; refine wp_region_lit ?_; refine xmv rfl ?_
      refine xnc rfl ?_
      refine xfa rfl ?_
      refine xldb 2 H rfl rfl rfl ?_
      refine xc [] H ((c_segname W.own hown)) rfl rfl rfl rfl rfl ?_; rintro _ _ w ⟨rfl, rfl⟩ H; replace H := H.ap rfl
      obtain ⟨bo1, bc1, H⟩ := (H.front' [1] rfl rfl).unbat
      refine xas rfl ?_; refine wpList_nil ?_; refine tn ?_; refine hK10 _ _ ?_; clear hK10 K10; refine sq ?_; intro K11 hK11; refine sq ?_; intro K12 hK12
      refine drwk (m := 9) [0, 2] 100000 rfl rfl rfl H ?_; clear H; intro w H
      refine dt' 0 rfl (by kernel_rfl) (by exact H.keeps [0, 2] rfl) (ymv rfl) ?_
      refine dt' 1 rfl (by kernel_rfl) (by exact H.keeps [0, 2] rfl) (ync rfl) ?_
      refine dt' 2 rfl (by kernel_rfl) (by exact H.keeps [0, 2] rfl) (yfa rfl) ?_
      refine dt 3 rfl (by kernel_rfl) (by exact H.keeps [0, 2] rfl) (zldb 1 rfl rfl rfl) ?_
      refine dt' 4 rfl (by kernel_rfl) (by exact H.keeps [0, 2] rfl) (ymv rfl) ?_
      refine dt' 5 rfl (by kernel_rfl) (by exact H.keeps [0, 2] rfl) (yfa rfl) ?_
      refine dt 6 rfl (by kernel_rfl) (by exact H.keeps [0, 2] rfl) (zldb 0 rfl rfl rfl) ?_
      refine do1 7 rfl (by kernel_rfl) ?_; intro K13 hK13
      refine xc [4, 1] H ((hap (own bo1 bc1 5 1 G.2.length (bv G.2)) bo1 bc1 (H.front' [1] rfl rfl).ownRd)) rfl rfl rfl rfl rfl ?_; rintro _ _ w ⟨rfl, rfl⟩ H; replace H := H.ap rfl
      generalize appendD D (segName W.own) G.2 = AP at *
      refine wpList_nil ?_; refine tn ?_; refine hK13 _ _ (fun _ => (by exact H.keeps [2, 3] rfl)) ?_; clear hK13 K13
      refine dt' 8 rfl (by kernel_rfl) (by exact H.keeps [2, 3] rfl) (yas rfl) ?_; refine dd (by kernel_rfl) ?_
      refine tn ?_; refine hK12 _ _ ?_; clear hK12 K12; refine sq ?_; intro K14 hK14; refine wp_region_lit ?_; refine xmv rfl ?_; refine xne rfl rfl ?_
      refine wpList_nil ?_; refine tn ?_; refine hK14 _ _ ?_; clear hK14 K14
      refine if_ rfl (fun h3 => ?_) (fun h3 => ?_)
      · have h3 : AP.1 ≠ 0 := by simpa using h3
        rw [if_pos h3] at hC
        refine sq ?_; intro K15 hK15; refine wp_region_lit ?_; refine xmv rfl ?_; refine xas rfl ?_; refine wpList_nil ?_
        refine tn ?_; refine hK15 _ _ ?_; clear hK15 K15; refine wp_ret ?_; refine tr ?_; clear hK11 K11
        replace H := St.tolog (H.front' [4, 3] rfl rfl)
        replace H := H.keeps [0, 0] rfl; refine hQ _ _ _ ?_; refine r1 rfl rfl H ?_
        rw [← hC]; exact ⟨rfl, rfl⟩
      · have h3 : ¬ AP.1 ≠ 0 := by simpa using h3
        rw [if_neg h3] at hC
        refine wp_skip ?_; refine tn ?_; refine hK11 _ _ ?_; clear hK11 K11; refine sq ?_; intro K15 hK15; refine sq ?_; intro K16 hK16; refine wp_region_lit ?_
        refine xmv rfl ?_
        refine xnc rfl ?_
        refine xfa rfl ?_
        refine xldb 4 H rfl rfl rfl ?_
        refine xmv rfl ?_
        refine xc [0] H (hsy) rfl rfl rfl rfl rfl ?_; rintro _ _ w ⟨rfl, rfl⟩ H; replace H := H.ap rfl
        generalize syncD AP.2 (segName W.own) = SY at *
        refine xas rfl ?_; refine wpList_nil ?_; refine tn ?_; refine hK16 _ _ ?_; clear hK16 K16; refine sq ?_; intro K17 hK17; refine wp_region_lit ?_
        refine xmv rfl ?_; refine xne rfl rfl ?_; refine wpList_nil ?_; refine tn ?_; refine hK17 _ _ ?_; clear hK17 K17
        refine if_ rfl (fun h4 => ?_) (fun h4 => ?_)
        · have h4 : SY.1 ≠ 0 := by simpa using h4
          rw [if_pos h4] at hC
          refine sq ?_; intro K18 hK18; refine wp_region_lit ?_; refine xmv rfl ?_; refine xas rfl ?_; refine wpList_nil ?_
          refine tn ?_; refine hK18 _ _ ?_; clear hK18 K18; refine wp_ret ?_; refine tr ?_; clear hK15 K15
          replace H := St.tolog (H.front' [4, 3] rfl rfl)
          replace H := H.keeps [0, 0] rfl; refine hQ _ _ _ ?_; refine r1 rfl rfl H ?_
          rw [← hC]; exact ⟨rfl, rfl⟩
        · have h4 : ¬ SY.1 ≠ 0 := by simpa using h4
          rw [if_neg h4] at hC
          have hol := (H.front' [3] rfl rfl).ownLen
          obtain ⟨wb, woff, rfl⟩ := own_some (H.front' [3] rfl rfl) (by omega)
          have hg : W.waits[W.waits.length - 1]? = some W.waits[W.waits.length - 1] := List.getElem?_eq_getElem (by omega)
          have hls : lastSeq W.waits = (W.waits[W.waits.length - 1]'(by omega)).seq := by unfold lastSeq; rw [List.getLast?_eq_getElem?, hg]
          have hcell : (own (some ⟨wb, woff, none⟩) wc recT 6 W.waits.length (recsV W.waits)).cell ⟨wb, woff + (W.waits.length - 1) * 6 + 0, none⟩ (.int .u64 (lastSeq W.waits)) :=
            own_get rfl rfl (by rw [hls]; exact recsV_seq hg)
          refine wp_skip ?_; refine tn ?_; refine hK15 _ _ ?_; clear hK15 K15; refine sq ?_; intro K18 hK18; refine drws (m := 17) 16 rfl rfl H ?_; clear H; intro w H
          refine dt' 0 rfl (by kernel_rfl) H (ymv rfl) ?_; refine dt' 1 rfl (by kernel_rfl) H (ymv rfl) ?_
          refine dt' 2 rfl (by kernel_rfl) H (ync rfl) ?_
          refine dt' 3 rfl (by kernel_rfl) H (yfa rfl) ?_
          refine dt 4 rfl (by kernel_rfl) H (zldb 4 rfl rfl rfl) ?_
          refine dt' 5 rfl (by kernel_rfl) H (ymv rfl) ?_
          refine dt' 6 rfl (by kernel_rfl) H (ync rfl) ?_
          refine dt' 7 rfl (by kernel_rfl) H (yfa rfl) ?_
          refine dt 8 rfl (by kernel_rfl) H (zldb 4 rfl rfl rfl) ?_
          refine dt' 9 rfl (by kernel_rfl) H (yli rfl) ?_
          refine dt' 10 rfl (by kernel_rfl) H (ysbi rfl rfl (wi64 (by omega))) ?_
          refine do1 11 rfl (by kernel_rfl) ?_; intro K19 hK19
          refine xia (j := W.waits.length - 1) rfl rfl (by omega) (by omega) ?_
          refine wpList_nil ?_; refine tn ?_; refine hK19 _ _ (fun _ => H) ?_; clear hK19 K19; refine dt' 12 rfl (by kernel_rfl) H (yfa rfl) ?_
          refine dt 13 rfl (by kernel_rfl) H (zld 3 rfl rfl hcell) ?_
          refine do1 14 rfl (by kernel_rfl) ?_; intro K20 hK20
          refine xnc rfl ?_
          refine wpList_nil ?_; refine tn ?_; refine hK20 _ _ (fun _ => H) ?_; clear hK20 K20; refine dt' 15 rfl (by kernel_rfl) H (yfa rfl) ?_
          refine do1 16 rfl (by kernel_rfl) ?_; intro K21 hK21
          (refine xst 4 H rfl rfl rfl rfl rfl ?_; intro w H)
          refine wpList_nil ?_; refine tn ?_; refine hK21 _ _ (fun h => absurd rfl h) ?_; clear hK21 K21; refine dd (by kernel_rfl) ?_
          refine tn ?_; refine hK18 _ _ ?_; clear hK18 K18; refine sq ?_; intro K22 hK22; refine wp_region_lit ?_; refine xmv rfl ?_
          refine xnc rfl ?_
          refine xfa rfl ?_
          (refine xst 0 H rfl rfl rfl rfl rfl ?_; intro w H)
          refine wpList_nil ?_; refine tn ?_; refine hK22 _ _ ?_; clear hK22 K22; refine sq ?_; intro K23 hK23; refine sq ?_; intro K24 hK24; refine wp_region_lit ?_
          refine xmv rfl ?_
          refine xnc rfl ?_
          refine xfa rfl ?_
          refine xldb 0 H rfl rfl rfl ?_
          refine xmv rfl ?_
          obtain ⟨rd, hrde⟩ : ∃ rd, readD SY.2 (segName W.own) = rd := ⟨_, rfl⟩
          rw [hrde] at hrd hC
          cases rd with | error e => ?_ | ok x => ?_
          · refine xc [1] H (hrd) rfl rfl rfl rfl rfl ?_; rintro _ _ w ⟨rfl, rfl⟩ H; replace H := H.ap rfl
            have he := readD_err hrde
            refine xmv rfl ?_; refine xex rfl rfl ?_; refine xex rfl rfl ?_; refine xas rfl ?_; refine xas rfl ?_; refine wpList_nil ?_
            refine tn ?_; refine hK24 _ _ ?_; clear hK24 K24; refine sq ?_; intro K25 hK25; refine wp_region_lit ?_; refine xmv rfl ?_; refine xeq rfl rfl ?_
            refine xmv rfl ?_; refine jand (b := ?b1) 4 82 [83, 84, 85] 86 rfl rfl H (fun hhc1 hc1 => ?a1) (fun hhc1 hc1 => ?o1) ?_
            case a1 =>
              refine xgy rfl rfl rfl ?_; refine xmv rfl ?_; refine xgy rfl rfl rfl ?_; refine xli rfl ?_; refine xgy rfl rfl rfl ?_; refine xge rfl rfl ?_
              refine xpkt rfl rfl ?_; exact hc1 _ _ _ _ H
            case o1 =>
              refine xgn rfl rfl rfl ?_; refine xgn rfl rfl rfl ?_; refine xgn rfl rfl rfl ?_; refine xpkf rfl rfl ?_; exact hc1 _ _ _ _ H
            intro u83 u84 u85 w H; refine wpList_nil ?_; refine tn ?_; refine hK25 _ _ ?_; clear hK25 K25
            refine if_ rfl (fun h5 => ?_) (fun h5 => ?_)
            · exact absurd h5 (by simp [he])
            · refine wp_skip ?_; refine tn ?_; refine hK23 _ _ ?_; clear hK23 K23; refine sq ?_; intro K26 hK26; refine wp_region_lit ?_; refine xas rfl ?_
              refine wpList_nil ?_; refine tn ?_; refine hK26 _ _ ?_; clear hK26 K26; refine wp_ret ?_
              replace H := (H.keeps [1, 0] rfl).ownNil recT 6
              replace H := St.tolog (W := { W with sure := lastSeq W.waits, waits := [] }) (H.front' [1, 0] rfl rfl)
              refine hQ _ _ _ ?_; refine r1 rfl rfl H ?_
              rw [← hC]; exact ⟨rfl, rfl⟩
          · refine xc [1] H (hrd) rfl rfl rfl rfl rfl ?_; rintro _ _ w ⟨xo, xc, rfl, rfl⟩ H; replace H := H.ap rfl
            refine xmv rfl ?_; refine xex rfl rfl ?_; refine xex rfl rfl ?_; refine xas rfl ?_; refine xas rfl ?_; refine wpList_nil ?_
            refine tn ?_; refine hK24 _ _ ?_; clear hK24 K24; refine sq ?_; intro K25 hK25; refine wp_region_lit ?_; refine xmv rfl ?_; refine xeq rfl rfl ?_
            refine xmv rfl ?_; refine jand (b := ?b2) 4 82 [83, 84, 85] 86 rfl rfl H (fun hhc2 hc2 => ?a2) (fun hhc2 hc2 => ?o2) ?_
            case a2 =>
              refine xgy rfl rfl rfl ?_; refine xmv rfl ?_; refine xgy rfl rfl rfl ?_; refine xli rfl ?_; refine xgy rfl rfl rfl ?_; refine xge rfl rfl ?_
              refine xpkt rfl rfl ?_; exact hc2 _ _ _ _ H
            case o2 =>
              refine xgn rfl rfl rfl ?_; refine xgn rfl rfl rfl ?_; refine xgn rfl rfl rfl ?_; refine xpkf rfl rfl ?_; exact hc2 _ _ _ _ H
            intro u83 u84 u85 w H; refine wpList_nil ?_; refine tn ?_; refine hK25 _ _ ?_; clear hK25 K25
            refine if_ rfl (fun h5 => ?_) (fun h5 => ?_)
            · have h5 : 256 ≤ x.length := by have h6 : (256 : Int) ≤ x.length := (by simpa using h5); omega
              simp only [if_pos h5] at hC
              refine wp_region_lit ?_; refine xmv rfl ?_
              refine xnc rfl ?_
              refine xfa rfl ?_
              refine xldb 2 H rfl rfl rfl ?_
              refine xadm_u64 (b := 1) rfl rfl ?_
              refine xnc rfl ?_
              refine xfa rfl ?_
              (refine xst 2 H rfl rfl rfl rfl rfl ?_; intro w H)
              refine wpList_nil ?_; refine tn ?_; refine hK23 _ _ ?_; clear hK23 K23; refine sq ?_; intro K26 hK26; refine wp_region_lit ?_; refine xas rfl ?_
              refine wpList_nil ?_; refine tn ?_; refine hK26 _ _ ?_; clear hK26 K26; refine wp_ret ?_
              replace H := (H.keeps [0, 1] rfl).ownNil recT 6
              replace H := St.tolog (W := { W with sure := lastSeq W.waits, waits := [], own := (W.own + 1) % 18446744073709551616 }) (H.front' [1, 0] rfl rfl)
              refine hQ _ _ _ ?_; refine r1 rfl rfl H ?_
              rw [← hC]; exact ⟨rfl, rfl⟩
            · have h5 : ¬ 256 ≤ x.length := by have h6 : (x.length : Int) < 256 := (by simpa using h5); omega
              simp only [if_neg h5] at hC
              refine wp_skip ?_; refine tn ?_; refine hK23 _ _ ?_; clear hK23 K23; refine sq ?_; intro K26 hK26; refine wp_region_lit ?_; refine xas rfl ?_
              refine wpList_nil ?_; refine tn ?_; refine hK26 _ _ ?_; clear hK26 K26; refine wp_ret ?_
              replace H := (H.keeps [2, 1] rfl).ownNil recT 6
              replace H := St.tolog (W := { W with sure := lastSeq W.waits, waits := [] }) (H.front' [1, 0] rfl rfl)
              refine hQ _ _ _ ?_; refine r1 rfl rfl H ?_
              rw [← hC]; exact ⟨rfl, rfl⟩
end Go.Proofs.YtegllbmkkfnajaaGreatDoor
end
section
namespace Go.Proofs.YtegllbmkkfnajaaGreatDoor
open Go Go.RowKit
section
variable {P : Program} {ops : Array Oper} {Q : Exit → Act → World → Prop} {rest : List Oper} {n d ty : Nat} {pos : String} {af : Array Edge} {ρ : Env} {ds : List Deferred} {w : World} {g : Gh} {L : List Asn}
theorem xmif {T : TypeId} {x : Operand} {v : Value} (hT : ∃ f, P.underlying T = some (.struct f)) (hx : ev n ρ x = some v) (h : wpList P ops Q rest (mk n (upd ρ d (.iface T v)) ds) w) :
    wpList P ops Q (⟨some d, .makeInterface T x, ty, pos, af, none⟩ :: rest) (mk n ρ ds) w := by
  obtain ⟨f, hf⟩ := hT
  refine st_val ?_ h
  simp [execOp, mk_eval hx, Instr.makeInterface, run_underlying hf]
theorem xpan {T : TypeId} {x : Operand} {v : Value} {dst : Option Tmp} (hx : ev n ρ x = some (.iface T v)) (h : Q (.panic [{ v := .iface T v, recovered := false }]) (mk n ρ ds) w) :
    wpList P ops Q (⟨dst, .panic x, ty, pos, af, none⟩ :: rest) (mk n ρ ds) w :=
  wpList_plain rfl fun K hK => by
    unfold Oper.wp
    rw [show (execOp (mk n ρ ds).eval ⟨dst, .panic x, ty, pos, af, none⟩).run P w = .halt (.panic (.iface T v)) w by simp [execOp, mk_eval hx, Instr.panic, goPanic], Oper.upon_panic]
    exact h
theorem xtas {T X : TypeId} {x : Operand} {v : Value} (hT : ∃ f, P.underlying T = some (.struct f)) (hx : ev n ρ x = some (.iface T v)) (h : wpList P ops Q rest (mk n (upd ρ d (.tuple #[v, .bool true])) ds) w) :
    wpList P ops Q (⟨some d, .typeAssert x X T true, ty, pos, af, none⟩ :: rest) (mk n ρ ds) w := by
  obtain ⟨f, hf⟩ := hT
  refine st_val ?_ h
  simp [execOp, mk_eval hx, Instr.typeAssert, run_underlying hf]
end
def PRet (fv : Int → Value) (V : Value → List Asn → Prop) (X : Int → List Asn → Prop) : Ending → List Asn → Prop :=
  fun e L => (∃ v, e = .returned v ∧ V v L) ∨ (∃ k, e = .panicked [{ v := fv k, recovered := false }] ∧ X k L)
theorem bpm {P : Program} {fn : Func} {R R' : Ending → World → Prop} (h : ∀ e w, R e w → R' e w) {e : Exit} {a : Act} {w : World} (hb : bodyPost P fn R e a w) : bodyPost P fn R' e a w := by
  cases e with
  | normal => obtain ⟨h1, v, h2, h3⟩ := hb; exact ⟨h1, v, h2, h _ _ h3⟩
  | ret => obtain ⟨h1, v, h2, h3⟩ := hb; exact ⟨h1, v, h2, h _ _ h3⟩
  | panic c => exact ⟨hb.1, h _ _ hb.2⟩
  | outgrown => exact h _ _ hb
  | exit _ => exact hb
  | goto _ => exact hb
theorem bpr {P : Program} {fn : Func} {fv : Int → Value} {V : Value → List Asn → Prop} {X : Int → List Asn → Prop} {g : Gh} {e : Exit} {a : Act} {w : World}
    (hb : bodyPost P fn (fun e w' => ∃ L', Ret V e L' ∧ St g w' L') e a w) : bodyPost P fn (fun e w' => ∃ L', PRet fv V X e L' ∧ St g w' L') e a w :=
  bpm (fun e w ⟨L', ⟨v, e1, hv⟩, H⟩ => ⟨L', .inl ⟨v, e1, hv⟩, H⟩) hb
theorem bpp {P : Program} {n : Nat} {ρ : Env} {fn : Func} {fv : Int → Value} {V : Value → List Asn → Prop} {X : Int → List Asn → Prop} {g : Gh} {L : List Asn} {w : World} {k : Int}
    (H : St g w L) (hX : X k L) : bodyPost P fn (fun e w' => ∃ L', PRet fv V X e L' ∧ St g w' L') (.panic [{ v := fv k, recovered := false }]) (mk n ρ []) w :=
  ⟨rfl, L, .inr ⟨k, rfl, hX⟩, H⟩
section
variable {P : Program} {ops : Array Oper} {Q : Exit → Act → World → Prop} {rest : List Oper} {n ty : Nat} {pos : String} {af : Array Edge} {ρ : Env} {ds : List Deferred} {w : World} {g : Gh} {L S M : List Asn}
variable {f : FuncId} {fw : Operand} {xs : List Operand} {ats : Array TypeId} {args av p q pa : List Value} {fv : Int → Value} {V : Value → List Asn → Prop} {X : Int → List Asn → Prop} {dst : Option Tmp}
theorem xcpr (ks : List Nat) (H : St g w L) (c : Fn P f args S (PRet fv V X)) (hf : ev n ρ fw = some (.func (.func f) p.toArray q.toArray)) (ha : evl n ρ xs = some av) (hpa : apV p av = some pa) (hpq : apV pa q = some args) (hk : pick ks L = some (S, M))
    (h : ∀ v L' w', V v L' → St g w' (L' ++ M) → wpList P ops Q rest (match dst with | some d => mk n (upd ρ d v) ds | none => mk n ρ ds) w')
    (hp : ∀ k L' w', X k L' → St g w' (L' ++ M) → Q (.panic [{ v := fv k, recovered := false }]) (mk n ρ ds) w') :
    wpList P ops Q (⟨dst, .call { callee := .value fw, args := xs.toArray, argTypes := ats }, ty, pos, af, none⟩ :: rest) (mk n ρ ds) w :=
  xcx ks H c hf ha hpa hpq hk
    (fun e L' hr he => by subst he; rcases hr with ⟨v, e, _⟩ | ⟨k, e, _⟩ <;> cases e)
    (fun v L' w' hr H' => by
      rcases hr with ⟨v', e, hv⟩ | ⟨k, e, _⟩
      · cases e; exact h v L' w' hv H'
      · cases e)
    (fun ch L' w' hr H' => by
      rcases hr with ⟨v', e, _⟩ | ⟨k, e, hx⟩
      · cases e
      · cases e; exact hp k L' w' hx H')
end
end Go.Proofs.YtegllbmkkfnajaaGreatDoor
namespace Go.Proofs.YtegllbmkkfnajaaGreatDoor
open Go Go.RowKit
section
variable {P : Program} {Q : Exit → Act → List Frame → World → Prop} {id n d1 d2 ty1 ty2 : Nat} {pos1 pos2 : String} {af1 af2 : Array Edge} {ρ : Env} {ds : List Deferred} {w : World} {cs cs' : List Frame} {v : Value}
theorem wpS_rec (hrec : recoverD cs = some (v, cs') ∨ (recoverD cs = none ∧ v = .nilIface ∧ cs' = cs)) (hd : Nat.blt d1 n = true) (h : Q .normal (mk n (upd (upd ρ d1 v) d2 v) ds) cs' w) :
    (Code.region id #[⟨some d1, .call { callee := .builtin .recover, args := #[], argTypes := #[] }, ty1, pos1, af1, none⟩, ⟨some d2, .assign (.tmp d1), ty2, pos2, af2, none⟩] false).wpS P Q (mk n ρ ds) cs w := by
  refine wpS_region ?_
  have e1 : ∀ (a : Act), (execOp a.eval ⟨some d1, .call { callee := .builtin .recover, args := #[], argTypes := #[] }, ty1, pos1, af1, none⟩).run P w = .ok .recover w := by
    intro a; simp [execOp, resolve, invoke, builtin]
  have e2 : (execOp (mk n (upd ρ d1 v) ds).eval ⟨some d2, .assign (.tmp d1), ty2, pos2, af2, none⟩).run P w = .ok (.value v) w := by
    have : (mk n (upd ρ d1 v) ds).eval (.tmp d1) = v := mk_eval (by simp [ev, hd, upd_same])
    simp [execOp, this]
  have hr : List.range 2 = [0, 1] := rfl
  have key : wpOpsS P #[⟨some d1, .call { callee := .builtin .recover, args := #[], argTypes := #[] }, ty1, pos1, af1, none⟩, ⟨some d2, .assign (.tmp d1), ty2, pos2, af2, none⟩] Q [1] ((mk n ρ ds).put (some d1) v) cs' w := by
    rw [mk_put]
    simp only [wpOpsS]
    simp [Region.wanted, e2, Oper.upon_value, mk_put, h]
  show wpOpsS P _ Q [0, 1] _ _ _
  rw [wpOpsS]
  simp only [Region.wanted]
  rcases hrec with hrec | ⟨hrec, rfl, rfl⟩
  · simp [e1, hrec]; exact key
  · simp [e1, hrec]; exact key
end
section
variable {P : Program} {ops : Array Oper} {Q : Exit → Act → World → Prop} {rest : List Oper} {n d ty : Nat} {pos : String} {af : Array Edge} {ρ : Env} {ds : List Deferred} {w : World}
theorem xinn {T U t : TypeId} (hT : ∃ ms, P.underlying T = some (.interface ms)) (hx : ev n ρ (.tmp t) = some .nilIface) (h : wpList P ops Q rest (mk n (upd ρ d (.bool true)) ds) w) :
    wpList P ops Q (⟨some d, .binOp .eql T (.tmp t) (.const .nilIface) U, ty, pos, af, none⟩ :: rest) (mk n ρ ds) w := by
  have hy : (mk n ρ ds).eval (.const .nilIface) = .nilIface := rfl
  refine st_val ?_ h
  obtain ⟨ms, hm⟩ := hT
  have he : ∀ k, (Op.equalIn (k + 1) T .nilIface .nilIface).run P w = .ok true w := by intro k; simp [Op.equalIn, run_underlying hm]
  have he2 : (Op.equal T .nilIface .nilIface).run P w = .ok true w := he 9999
  simp [execOp, mk_eval hx, hy, eqGuard, binOp, he2]
theorem xinv {T U X t : TypeId} {v : Value} (hT : ∃ ms, P.underlying T = some (.interface ms)) (hx : ev n ρ (.tmp t) = some (.iface X v)) (h : wpList P ops Q rest (mk n (upd ρ d (.bool false)) ds) w) :
    wpList P ops Q (⟨some d, .binOp .eql T (.tmp t) (.const .nilIface) U, ty, pos, af, none⟩ :: rest) (mk n ρ ds) w := by
  have hy : (mk n ρ ds).eval (.const .nilIface) = .nilIface := rfl
  refine st_val ?_ h
  obtain ⟨ms, hm⟩ := hT
  have he : ∀ k, (Op.equalIn (k + 1) T (.iface X v) .nilIface).run P w = .ok false w := by intro k; simp [Op.equalIn, run_underlying hm]
  have he2 : (Op.equal T (.iface X v) .nilIface).run P w = .ok false w := he 9999
  simp [execOp, mk_eval hx, hy, eqGuard, binOp, he2]
theorem xdef {f : FuncId} {p q : List Value} {fw : Operand} (hf : ev n ρ fw = some (.func (.func f) p.toArray q.toArray)) (h : wpList P ops Q rest (mk n ρ ({ target := .fn (.func f) q.toArray, args := p.toArray } :: ds)) w) :
    wpList P ops Q (⟨none, .defer { callee := .value fw, args := #[], argTypes := #[] }, ty, pos, af, none⟩ :: rest) (mk n ρ ds) w :=
  wpList_plain rfl fun K hK => by
    unfold Oper.wp
    rw [show (execOp (mk n ρ ds).eval ⟨none, .defer { callee := .value fw, args := #[], argTypes := #[] }, ty, pos, af, none⟩).run P w = .ok (.defer { target := .fn (.func f) q.toArray, args := p.toArray }) w by
      simp [execOp, resolve, mk_eval hf, Deferred.ofValue], Oper.upon_defer]
    exact hK _ _ h
theorem Fn.introD {P : Program} {f : FuncId} {fn : Func} {c : Code} {args : List Value} {L : List Asn} {R : Ending → List Asn → Prop} {n : Nat}
    (hc : ∀ (xas : Array Value) w, (callFunc f xas).run P w = .ok (.enter f xas) w) (hf : P.funcs[f]? = some fn) (hb : fn.body = some c) (hn : fn.ntmps = n) (hl : Nat.ble args.length n = true)
    (h : ∀ g w (Q : Exit → Act → World → Prop), (∀ e a w, bodyPostD P fn (fun e w' => ∃ L', R e L' ∧ St g w' L') e a w → Q e a w) → St g w L → c.wp P Q (mk n (ini args) []) w) : Fn P f args L R := by
  subst hn
  exact ⟨fun w => hc _ w, fun g w H => calls_of_wp_defers hf hb (by rw [mk_ini _ _ (Nat.le_of_ble_eq_true hl)]; exact h g w _ (fun _ _ _ => id) H)⟩
theorem CallsD.mono' {P : Program} {f : FuncId} {args : Array Value} {u : FrameMode} {w : World} {R R' : Ending → FrameMode → World → Prop} (h : CallsD P f args u w R) (hr : ∀ e u w, R e u w → R' e u w) : CallsD P f args u w R' :=
  fun c cs hu => let ⟨e, u', w', fr, r, rest⟩ := h c cs hu; ⟨e, u', w', fr, hr _ _ _ r, rest⟩
end
section
variable {P : Program} {ops : Array Oper} {Q : Exit → Act → World → Prop} {rest : List Oper} {n ty : Nat} {pos : String} {af : Array Edge} {ρ : Env} {ds : List Deferred} {w : World} {g : Gh} {S M : List Asn}
variable {f : FuncId} {fw : Operand} {xs : List Operand} {ats : Array TypeId} {args av p q pa : List Value} {fv : Int → Value} {V : Value → List Asn → Prop} {X : Int → List Asn → Prop} {d : Tmp}
theorem xcpa (H : St g w (S ++ M)) (c : Fn P f args S (PRet fv V X)) (hf : ev n ρ fw = some (.func (.func f) p.toArray q.toArray)) (ha : evl n ρ xs = some av) (hpa : apV p av = some pa) (hpq : apV pa q = some args)
    (h : ∀ v L' w', V v L' → St g w' (L' ++ M) → wpList P ops Q rest (mk n (upd ρ d v) ds) w')
    (hp : ∀ k L' w', X k L' → St g w' (L' ++ M) → Q (.panic [{ v := fv k, recovered := false }]) (mk n ρ ds) w') :
    wpList P ops Q (⟨some d, .call { callee := .value fw, args := xs.toArray, argTypes := ats }, ty, pos, af, none⟩ :: rest) (mk n ρ ds) w :=
  wpList_plain rfl fun K hK => by
    unfold Oper.wp; rw [run_call hf ha hpa hpq c.1, Oper.upon_enter]
    refine (c.callsA H).mono fun e w' ⟨L', r, H'⟩ => ?_
    rcases r with ⟨v, e', hv⟩ | ⟨k, e', hx⟩
    · subst e'
      show K ((mk n ρ ds).put (some d) v) w'
      rw [mk_put]; exact hK _ _ (h v L' w' hv H')
    · subst e'; exact hp k L' w' hx H'
end
end Go.Proofs.YtegllbmkkfnajaaGreatDoor
end
section
namespace Go.Proofs.YtegllbmkkfnajaaGreatDoor
open Go Go.Proofs
attribute [local irreducible] Go.wpList Go.Code.wp St Fn mk
set_option maxRecDepth 20000
abbrev faultT : Nat := 69
def faultV (k : Int) : Value := .iface faultT (.agg #[.int .i64 k])
theorem c_must (k : Int) : Fn Tryz.prog 22 [.int .i64 k] [] (PRet faultV (fun v L => k = 0 ∧ v = .tuple #[] ∧ L = []) (fun j L => j = k ∧ k ≠ 0 ∧ L = [])) := by
  refine Fn.intro Tryz.call22 Tryz.func22 rfl Tryz.ntmps22 rfl ?_; intro g w Q hQ H
  refine sq ?_; intro K1 hK1; refine wp_region_lit ?_; refine xmv rfl ?_; refine xne rfl rfl ?_; refine wpList_nil ?_
  refine tn ?_; refine hK1 _ _ ?_; clear hK1 K1
  refine if_ rfl (fun h => ?_) (fun h => ?_)
  · have h : k ≠ 0 := by simpa using h
    refine wp_region_lit ?_; refine xmv rfl ?_; refine xbu rfl ?_
    refine xmif ⟨_, Tryz.underlying69⟩ rfl ?_
    refine xpan rfl ?_
    refine hQ _ _ _ (bpp H ?_)
    exact ⟨rfl, h, rfl⟩
  · have h : k = 0 := by simpa using h
    refine wp_skip ?_
    refine hQ _ _ _ (bpr ?_); refine n0 rfl H ?_
    exact ⟨h, rfl, rfl⟩
theorem c_noroom (k : Int) : Fn Tryz.prog 39 [.int .i64 k] [] (Ret fun v L => v = .bool (k == 10 || k == 15) ∧ L = []) := by
  refine Fn.intro Tryz.call39 Tryz.func39 rfl Tryz.ntmps39 rfl ?_; intro g w Q hQ H
  refine sq ?_; intro K1 hK1; refine wp_region_lit ?_; refine xas rfl ?_; refine wpList_nil ?_; refine tn ?_; refine hK1 _ _ ?_; clear hK1 K1
  refine sq ?_; intro K2 hK2; refine wp_region_lit ?_; refine xmv rfl ?_; refine xeq rfl rfl ?_; refine xmv rfl ?_
  refine jor (b := ?b1) 3 5 [6, 7] 8 rfl rfl H (fun hhc1 hc1 => ?a1) (fun hhc1 hc1 => ?o1) ?_
  case a1 =>
    refine xgy rfl rfl rfl ?_; refine xmv rfl ?_; refine xgy rfl rfl rfl ?_; refine xeq rfl rfl ?_; refine xpkf rfl rfl ?_; exact hc1 _ _ _ H
  case o1 =>
    refine xgn rfl rfl rfl ?_; refine xgn rfl rfl rfl ?_; refine xpkt rfl rfl ?_; exact hc1 _ _ _ H
  intro u6 u7 w H; refine xas rfl ?_; refine wpList_nil ?_; refine tn ?_; refine hK2 _ _ ?_; clear hK2 K2; refine wp_ret ?_
  refine hQ _ _ _ ?_; refine r1 rfl rfl H ?_
  exact ⟨rfl, rfl⟩
end Go.Proofs.YtegllbmkkfnajaaGreatDoor
end
section
namespace Go.Proofs.YtegllbmkkfnajaaGreatDoor
open Go Go.Proofs
set_option maxRecDepth 20000
theorem steps1_post {w : World} {ρ : Env} {c₀ : Frame} {cs : List Frame} {u' : FrameMode} {R : Ending → FrameMode → World → Prop} (e : Exit) (he : e = .ret ∨ e = .normal) (h : R (.returned (.tuple #[])) u' w) :
    bodyPostS Tryz.prog Tryz.f31 c₀ cs R e (mk 17 ρ []) ({ c₀ with mode := u' } :: cs) w := by
  have hr : (results Tryz.f31 (mk 17 ρ []).tmps).run Tryz.prog w = .ok (.tuple #[]) w := by simp [results, show Tryz.f31.results = #[] from rfl]
  rcases he with rfl | rfl <;> exact ⟨rfl, u', rfl, _, hr, h⟩
theorem bpd_ret {P : Program} {fn : Func} {R : Ending → World → Prop} {n : Nat} {ρ : Env} {ds : List Deferred} {w : World} {e : Exit} (he : e = .ret ∨ e = .normal) (h : Leaves P fn (mk n ρ ds).tmps R ds .returning w) : bodyPostD P fn R e (mk n ρ ds) w := by
  rcases he with rfl | rfl <;> exact h
theorem bpd_pan {P : Program} {fn : Func} {R : Ending → World → Prop} {n : Nat} {ρ : Env} {ds : List Deferred} {w : World} {c : List PanicEntry} (h : Leaves P fn (mk n ρ ds).tmps R ds (.panicking c) w) : bodyPostD P fn R (.panic c) (mk n ρ ds) w := h
theorem inv_fn {P : Program} {f : FuncId} {xa : Array Value} {w : World} (h : (callFunc f xa).run P w = .ok (.enter f xa) w) : (invoke (.fn (.func f) xa) #[]).run P w = .ok (.enter f xa) w := by
  simp [invoke, h]
attribute [local irreducible] Go.wpList Go.Code.wp St Fn mk
theorem d_idle {g : Gh} {w : World} {L : List Asn} (b : Nat) (x : Value) (H : St g w (blk b [x] 27 :: L)) :
    CallsD Tryz.prog 31 #[.pointer (some ⟨b, 0, none⟩)] .returning w fun e u' w' => e = .returned (.tuple #[]) ∧ u' = .returning ∧ St g w' (blk b [x] 27 :: L) := by
  refine callsD_of_wpS Tryz.func31 rfl (fun c₀ cs hu => ?_)
  rw [Tryz.ntmps31]
  have hm := mk_ini 17 [.pointer (some ⟨b, 0, none⟩)] (by simp)
  rw [show (#[Value.pointer (some ⟨b, 0, none⟩)] : Array Value) = [Value.pointer (some ⟨b, 0, none⟩)].toArray from rfl, hm]
  refine wpS_seq ?_
  refine wpS_rec (v := .nilIface) (cs' := c₀ :: cs) (.inr ⟨by simp [recoverD, hu], rfl, rfl⟩) rfl ?_
  refine wpS_of_wp ?_
  refine sq ?_; intro K1 hK1; refine sq ?_; intro K2 hK2; refine wp_region_lit ?_; refine xmv rfl ?_
  refine xinn ⟨_, Tryz.underlying20⟩ rfl ?_
  refine wpList_nil ?_; refine tn ?_; refine hK2 _ _ ?_; clear hK2 K2; refine ift rfl ?_; refine wp_ret ?_; refine tr ?_; clear hK1 K1
  refine steps1_post .ret (.inl rfl) ?_
  exact ⟨rfl, hu, H⟩
theorem d_catch {g : Gh} {w : World} {L : List Asn} (b : Nat) (x : Value) (k : Int) (H : St g w (blk b [x] 27 :: L)) :
    CallsD Tryz.prog 31 #[.pointer (some ⟨b, 0, none⟩)] (.panicking [{ v := faultV k, recovered := false }]) w fun e u' w' =>
      e = .returned (.tuple #[]) ∧ u' = .panicking [{ v := faultV k, recovered := true }] ∧ St g w' (blk b [.int .i64 k] 27 :: L) := by
  refine callsD_of_wpS Tryz.func31 rfl (fun c₀ cs hu => ?_)
  rw [Tryz.ntmps31]
  have hm := mk_ini 17 [.pointer (some ⟨b, 0, none⟩)] (by simp)
  rw [show (#[Value.pointer (some ⟨b, 0, none⟩)] : Array Value) = [Value.pointer (some ⟨b, 0, none⟩)].toArray from rfl, hm]
  refine wpS_seq ?_
  refine wpS_rec (v := faultV k) (cs' := { c₀ with mode := .panicking [{ v := faultV k, recovered := true }] } :: cs) (.inl (by simp [recoverD, hu])) rfl ?_
  refine wpS_of_wp ?_
  unfold faultV
  refine sq ?_; intro K1 hK1; refine sq ?_; intro K2 hK2; refine wp_region_lit ?_; refine xmv rfl ?_
  refine xinv ⟨_, Tryz.underlying20⟩ rfl ?_
  refine wpList_nil ?_; refine tn ?_; refine hK2 _ _ ?_; clear hK2 K2; refine iff_ rfl ?_; refine wp_skip ?_; refine tn ?_; refine hK1 _ _ ?_; clear hK1 K1
  refine sq ?_; intro K3 hK3; refine wp_region_lit ?_; refine xmv rfl ?_
  refine xtas ⟨_, Tryz.underlying69⟩ rfl ?_
  refine xmv rfl ?_; refine xex rfl rfl ?_; refine xex rfl rfl ?_; refine xal H ?_; intro b2 w H
  (refine xsta 0 H rfl rfl rfl rfl rfl rfl ?_; intro w H)
  refine xas rfl ?_; refine wpList_nil ?_; refine tn ?_; refine hK3 _ _ ?_; clear hK3 K3; refine sq ?_; intro K4 hK4; refine sq ?_; intro K5 hK5
  refine wp_region_lit ?_; refine xmv rfl ?_; refine xnt rfl ?_; refine wpList_nil ?_; refine tn ?_; refine hK5 _ _ ?_; clear hK5 K5; refine iff_ rfl ?_
  refine wp_skip ?_; refine tn ?_; refine hK4 _ _ ?_; clear hK4 K4; refine wp_region_lit ?_; refine xfa rfl ?_
  refine xldb 0 H rfl rfl rfl ?_
  (refine xst 1 H rfl rfl rfl rfl rfl ?_; intro w H)
  refine wpList_nil ?_
  refine steps1_post .normal (.inr rfl) ?_
  exact ⟨rfl, rfl, (H.perm (.swap _ _ _)).drop⟩
theorem steps_res {w : World} {g : Gh} {L : List Asn} {n : Nat} {ρ : Env} {ds : List Deferred} {b : Nat} {v : Value} (hv : ev n ρ (.tmp 2) = some (.pointer (some ⟨b, 0, none⟩))) (H : St g w (blk b [v] 27 :: L)) :
    (results Tryz.f19 (mk n ρ ds).tmps).run Tryz.prog w = .ok v w := by
  have e1 := mk_eval (ds := ds) hv
  have hc : w.cell? ⟨b, 0, none⟩ = some v := H.cell (k := 0) rfl (blk_cell rfl)
  have h := run_loadVar_sc (P := Tryz.prog) (T := 27) hc
  simp only [Act.eval, Array.getD_eq_getD_getElem?] at e1
  simp [results, show Tryz.f19.results = #[.cell 2 27] from rfl, e1, asAddr, h]
theorem steps_ok {w : World} {g : Gh} {L : List Asn} {n : Nat} {ρ : Env} {b : Nat} {R : Ending → World → Prop} {e : Exit} (he : e = .ret ∨ e = .normal) (hv : ev n ρ (.tmp 2) = some (.pointer (some ⟨b, 0, none⟩))) (H : St g w (blk b [.int .i64 0] 27 :: L))
    (h : ∀ w', St g w' (blk b [.int .i64 0] 27 :: L) → R (.returned (.int .i64 0)) w') :
    bodyPostD Tryz.prog Tryz.f19 R e (mk n ρ [{ target := .fn (.func 31) #[.pointer (some ⟨b, 0, none⟩)], args := #[] }]) w := by
  refine bpd_ret he ⟨by simp, _, _, _, _, rfl, inv_fn (Tryz.call31 _ _), CallsD.mono' (d_idle b _ H) ?_⟩
  rintro e u w' ⟨rfl, rfl, H'⟩
  exact ⟨_, steps_res hv H', h _ H'⟩
theorem steps_pan {w : World} {g : Gh} {L : List Asn} {n : Nat} {ρ : Env} {b : Nat} {x : Value} {k : Int} {R : Ending → World → Prop} (hv : ev n ρ (.tmp 2) = some (.pointer (some ⟨b, 0, none⟩))) (H : St g w (blk b [x] 27 :: L))
    (h : ∀ w', St g w' (blk b [.int .i64 k] 27 :: L) → R (.returned (.int .i64 k)) w') :
    bodyPostD Tryz.prog Tryz.f19 R (.panic [{ v := faultV k, recovered := false }]) (mk n ρ [{ target := .fn (.func 31) #[.pointer (some ⟨b, 0, none⟩)], args := #[] }]) w := by
  refine bpd_pan ⟨by simp, _, _, _, _, rfl, inv_fn (Tryz.call31 _ _), CallsD.mono' (d_catch b _ k H) ?_⟩
  rintro e u w' ⟨rfl, rfl, H'⟩
  exact ⟨_, steps_res hv H', h _ H'⟩
theorem apV_nil : ∀ p : List Value, apV p [] = some p
  | [] => rfl
  | v :: p => by simp [apV, apV_nil p]
theorem c_steps (wf : FuncId) (p q pq : List Value) (S : List Asn) (V : List Asn → Prop) (X : Int → List Asn → Prop) (hpq : apV p q = some pq) (h : Fn Tryz.prog wf pq S (PRet faultV (fun v L => v = .tuple #[] ∧ V L) X)) :
    Fn Tryz.prog 19 [.func (.func wf) p.toArray q.toArray] S (Ret fun v L => (v = .int .i64 0 ∧ V L) ∨ ∃ k, v = .int .i64 k ∧ X k L) := by
  refine Fn.introD Tryz.call19 Tryz.func19 rfl Tryz.ntmps19 rfl ?_; intro g w Q hQ H
  refine sq ?_; intro K1 hK1; refine wp_region_lit ?_; refine xal H ?_; intro b2 w H; refine wpList_nil ?_; refine tn ?_; refine hK1 _ _ ?_; clear hK1 K1
  refine sq ?_; intro K2 hK2; refine wp_region_lit ?_; refine xmf rfl rfl ?_
  refine xdef rfl ?_
  refine wpList_nil ?_; refine tn ?_; refine hK2 _ _ ?_; clear hK2 K2; refine sq ?_; intro K3 hK3; refine wp_region_lit ?_; refine xmv rfl ?_
  replace H : St g w (S ++ [blk b2 [.int .i64 0] 27]) := H.perm (List.perm_append_comm (l₁ := [blk b2 [.int .i64 0] 27]))
  refine xcpa H h rfl rfl (apV_nil p) hpq ?_ ?_
  · rintro _ _ w ⟨rfl, hV⟩ H; skip
    replace H := H.perm (List.perm_append_comm (l₂ := [blk b2 [.int .i64 0] 27]))
    replace H : St g w (blk b2 [.int .i64 0] 27 :: _) := H
    refine wpList_nil ?_; refine tn ?_; refine hK3 _ _ ?_; clear hK3 K3; refine sq ?_; intro K4 hK4; refine wp_region_lit ?_
    (refine xst 0 H rfl rfl rfl rfl rfl ?_; intro w H)
    refine wpList_nil ?_; refine tn ?_; refine hK4 _ _ ?_; clear hK4 K4; refine wp_ret ?_
    refine hQ _ _ _ ?_
    refine steps_ok (by simp) (by rfl) H fun w' H' => ⟨_, ⟨_, rfl, .inl ⟨rfl, hV⟩⟩, H'.drop⟩
  · rintro k _ w hX H; refine tp ?_; clear hK3 K3; skip
    replace H := H.perm (List.perm_append_comm (l₂ := [blk b2 [.int .i64 0] 27]))
    replace H : St g w (blk b2 [.int .i64 0] 27 :: _) := H
    refine hQ _ _ _ ?_
    refine steps_pan (by rfl) H fun w' H' => ⟨_, ⟨_, rfl, .inr ⟨k, rfl, hX⟩⟩, H'.drop⟩
end Go.Proofs.YtegllbmkkfnajaaGreatDoor
end
section
namespace Go.Proofs
open Go.Shelf
def Tryz.lays190_ren : Go.Shelf.Ren := ⟨fun | 190 => 131 | 125 => 129 | 258 => 161 | 128 => 158 | 129 => 159 | 302 => 182 | 303 => 183 | 304 => 184 | 305 => 185 | 306 => 186 | 307 => 187 | 308 => 188 | 309 => 189 | 310 => 190 | 333 => 196 | 329 => 177 | 330 => 178 | 334 => 197 | 335 => 198 | 336 => 199 | 344 => 202 | n => n, fun | 31 => 105 | 9 => 9 | 3 => 3 | 46 => 147 | 0 => 0 | 51 => 151 | 53 => 22 | 4 => 4 | 183 => 194 | 182 => 193 | 131 => 93 | 5 => 5 | 218 => 217 | 222 => 220 | 228 => 230 | 229 => 231 | n => n, fun | n => n⟩
theorem Tryz.lays190 : Go.Proofs.Lays.n190 Tryz.prog Tryz.lays190_ren := {
  mixed := by kernel_rfl
  f125 := Tryz.func129.trans (congrArg some (by kernel_rfl))
  f128 := Tryz.func158.trans (congrArg some (by kernel_rfl))
  f129 := Tryz.func159.trans (congrArg some (by kernel_rfl))
  f190 := Tryz.func131.trans (congrArg some (by kernel_rfl))
  f258 := Tryz.func161.trans (congrArg some (by kernel_rfl))
  f302 := Tryz.func182.trans (congrArg some (by kernel_rfl))
  f303 := Tryz.func183.trans (congrArg some (by kernel_rfl))
  f304 := Tryz.func184.trans (congrArg some (by kernel_rfl))
  f305 := Tryz.func185.trans (congrArg some (by kernel_rfl))
  f306 := Tryz.func186.trans (congrArg some (by kernel_rfl))
  f307 := Tryz.func187.trans (congrArg some (by kernel_rfl))
  f308 := Tryz.func188.trans (congrArg some (by kernel_rfl))
  f309 := Tryz.func189.trans (congrArg some (by kernel_rfl))
  f310 := Tryz.func190.trans (congrArg some (by kernel_rfl))
  f329 := Tryz.func177.trans (congrArg some (by kernel_rfl))
  f330 := Tryz.func178.trans (congrArg some (by kernel_rfl))
  f333 := Tryz.func196.trans (congrArg some (by kernel_rfl))
  f334 := Tryz.func197.trans (congrArg some (by kernel_rfl))
  f335 := Tryz.func198.trans (congrArg some (by kernel_rfl))
  f336 := Tryz.func199.trans (congrArg some (by kernel_rfl))
  f344 := Tryz.func202.trans (congrArg some (by kernel_rfl))
  t0 := Tryz.underlying0
  a0 := Tryz.isAgg0
  z0 := Tryz.sizeOf0
  v0 := Tryz.zeroValue0
  t3 := Tryz.underlying3
  a3 := Tryz.isAgg3
  z3 := Tryz.sizeOf3
  v3 := Tryz.zeroValue3
  t4 := Tryz.underlying4
  a4 := Tryz.isAgg4
  z4 := Tryz.sizeOf4
  v4 := Tryz.zeroValue4
  t5 := Tryz.underlying5
  a5 := Tryz.isAgg5
  z5 := Tryz.sizeOf5
  v5 := Tryz.zeroValue5
  t9 := Tryz.underlying9
  a9 := Tryz.isAgg9
  z9 := Tryz.sizeOf9
  v9 := Tryz.zeroValue9
  t31 := Tryz.underlying105
  a31 := Tryz.isAgg105
  z31 := Tryz.sizeOf105
  v31 := Tryz.zeroValue105
  t46 := Tryz.underlying147
  a46 := Tryz.isAgg147
  z46 := Tryz.sizeOf147
  v46 := Tryz.zeroValue147
  t51 := Tryz.underlying151
  a51 := Tryz.isAgg151
  z51 := Tryz.sizeOf151
  v51 := Tryz.zeroValue151
  t53 := Tryz.underlying22
  a53 := Tryz.isAgg22
  z53 := Tryz.sizeOf22
  v53 := Tryz.zeroValue22
  t131 := Tryz.underlying93
  a131 := Tryz.isAgg93
  z131 := Tryz.sizeOf93
  v131 := Tryz.zeroValue93
  t182 := Tryz.underlying193
  a182 := Tryz.isAgg193
  z182 := Tryz.sizeOf193
  v182 := Tryz.zeroValue193
  t183 := Tryz.underlying194
  a183 := Tryz.isAgg194
  z183 := Tryz.sizeOf194
  v183 := Tryz.zeroValue194
  t218 := Tryz.underlying217
  a218 := Tryz.isAgg217
  z218 := Tryz.sizeOf217
  v218 := Tryz.zeroValue217
  t222 := Tryz.underlying220
  a222 := Tryz.isAgg220
  z222 := Tryz.sizeOf220
  v222 := Tryz.zeroValue220
  t228 := Tryz.underlying230
  a228 := Tryz.isAgg230
  z228 := Tryz.sizeOf230
  v228 := Tryz.zeroValue230
  t229 := Tryz.underlying231
  a229 := Tryz.isAgg231
  z229 := Tryz.sizeOf231
  v229 := Tryz.zeroValue231 }
open Go.Sort Go.RowKit in
theorem Tryz.slices_Sort_string (blk off cap : Nat) (ss : List (List UInt8)) (w : World) (hH : Holds encStr w blk off ss.toArray) (hblk : blk < w.heap.size) (hsz : ss.length < 4611686018427387904) :
    Calls Tryz.prog 131 #[.slice (some ⟨blk, off, none⟩) ss.length cap] w fun e w' =>
      e = .returned (.tuple #[]) ∧ ∃ n os, w' = grow (putRow encStr (Sort.ahead w n) blk off (ss.mergeSort fun x y => decide (x ≤ y)).toArray) os := Any.slices_Sort_string Tryz.lays190 blk off cap ss w hH hblk hsz
open Go.RowKit Go.Sort in
theorem Tryz.slices_Sort_string_none (p : Option Addr) (cap : Nat) (w : World) :
    Calls Tryz.prog 131 #[.slice p 0 cap] w fun e w' => e = .returned (.tuple #[]) ∧ w' = w := Any.slices_Sort_string_none Tryz.lays190 p cap w
end Go.Proofs
end
section
namespace Go.Proofs.YtegllbmkkfnajaaGreatDoor
open Go Go.RowKit Go.Sort
section
variable {g : Gh} {w : World} {L : List Asn}
theorem St.grow {os : Array Obj} (h : St g w L) : St g (Go.Sort.grow w os) L := by
  obtain ⟨F, hF, hb, hf, he⟩ := h
  have hold : ∀ b, b < w.heap.size → (Go.Sort.grow w os).heap[b]? = w.heap[b]? := fun b hlt => by
    show (w.heap ++ os)[b]? = _
    rw [Array.getElem?_append_left hlt]
  refine ⟨F, hF.keep (fun b hx => hold b (hb b hx)), fun b hx => Nat.lt_of_lt_of_le (hb b hx) (by simp [Go.Sort.grow]), hf, ⟨Nat.le_trans he.size (by simp [Go.Sort.grow]), fun b hlt hx => (hold b (Nat.lt_of_lt_of_le hlt he.size)).trans (he.old b hlt hx), he.tape, he.os, he.output⟩⟩
theorem St.ahead {k : Nat} (h : St g w L) : St g (Go.Sort.ahead w k) L := by
  obtain ⟨F, hF, hb, hf, he⟩ := h
  exact ⟨F, hF.keep (fun _ _ => rfl), hb, hf, ⟨he.size, he.old, he.tape, he.os, he.output⟩⟩
theorem put_take {α : Type} [Inhabited α] {enc : α → Value} {off : Nat} {ys : List α} {c : Array Value} (h : off + ys.length ≤ c.size) :
    ((putCells enc off ys.toArray c).toList.drop off).take ys.length = ys.map enc := by
  apply List.ext_getElem?
  intro i
  rw [List.getElem?_take, List.getElem?_drop, List.getElem?_map]
  by_cases hi : i < ys.length
  · rw [if_pos hi]
    have h2 : off + i < c.size := by omega
    simp only [putCells, Array.getElem?_toList, Array.getElem?_mapIdx]
    rw [Array.getElem?_eq_getElem h2, List.getElem?_eq_getElem hi]
    simp [hi]
  · rw [if_neg hi, List.getElem?_eq_none (by omega)]; rfl
theorem St.putRow {α : Type} [Inhabited α] {enc : α → Value} {xs ys : List α} {b off cap E : Nat} (hl : ys.length = xs.length) (hpos : 0 < cap) (H : St g w (own (some ⟨b, off, none⟩) cap E 1 xs.length (xs.map enc) :: L)) :
    St g (Go.Sort.putRow enc w b off ys.toArray) (own (some ⟨b, off, none⟩) cap E 1 xs.length (ys.map enc) :: L) := by
  refine St.frame1 (S' := [_]) H (fun g' h' => ?_)
  obtain ⟨F, ⟨F1, F2, ⟨h1, h2, h3⟩, h4, hd, hu⟩, hb, hf, he⟩ := h'
  obtain ⟨b', o', c, fr, e, hF, hh, hU, hs, hc⟩ := h3.resolve_left (fun h => by omega)
  cases e
  have hlt := hb b ((hu b).2 (.inl ((hF b).2 rfl)))
  have hsz : (Go.Sort.putRow enc w b off ys.toArray).heap.size = w.heap.size := by simp [Go.Sort.putRow, mapBlock]
  have hn : (Go.Sort.putRow enc w b off ys.toArray).heap[b]? = some (.cells (putCells enc off ys.toArray c) E fr) := by
    simp only [Go.Sort.putRow, mapBlock, Array.getElem?_modify, if_pos, hh, Option.map_some]; rfl
  have hk : ∀ k, k ≠ b → (Go.Sort.putRow enc w b off ys.toArray).heap[k]? = w.heap[k]? := fun k hk => by
    simp only [Go.Sort.putRow, mapBlock, Array.getElem?_modify]
    rw [if_neg (Ne.symm hk)]
  have hcs : (putCells enc off ys.toArray c).size = c.size := by simp [putCells]
  refine ⟨F, ⟨F1, F2, ⟨by simp [hl], h2, .inr ⟨b, off, _, fr, rfl, hF, hn, by unfold Unfz at *; rw [hcs]; exact hU, by rw [hcs]; exact hs, ?_⟩⟩, h4, hd, hu⟩, fun x hx => hsz ▸ hb x hx, hf, ⟨hsz ▸ he.size, fun x hx hx2 => ?_, he.tape, he.os, he.output⟩⟩
  · rw [Nat.mul_one, ← hl]; exact put_take (by omega)
  · have hne : x ≠ b := fun e => by
      subst e
      rcases hf x ((hu x).2 (.inl ((hF x).2 rfl))) with y | y
      · exact hx2 y
      · exact absurd hx (Nat.not_lt.2 y)
    exact (hk x hne).trans (he.old x hx hx2)
theorem own_holds {α : Type} [Inhabited α] {enc : α → Value} {xs : List α} {b off cap E : Nat} (hpos : 0 < cap) (H : St g w (own (some ⟨b, off, none⟩) cap E 1 xs.length (xs.map enc) :: L)) : Holds enc w b off xs.toArray ∧ b < w.heap.size := by
  obtain ⟨F, hF⟩ := H.nth (k := 0) rfl
  obtain ⟨b', o', c, fr, e, hF', hh, hU, hs, hc⟩ := hF.2.2.resolve_left (fun h => by omega)
  cases e
  refine ⟨fun j hj => ?_, (Array.getElem?_eq_some_iff.1 hh).1⟩
  simp only [List.size_toArray] at hj
  have hle := hF.2.1
  have hjc : off + j < c.size := by omega
  constructor
  · rw [cell_of_heap hh]
    have : ((c.toList.drop off).take (xs.length * 1))[j]? = (xs.map enc)[j]? := by rw [hc]
    rw [List.getElem?_take, if_pos (by omega), List.getElem?_drop, Array.getElem?_toList, List.getElem?_map] at this
    rw [this, List.getElem?_eq_getElem hj]
    simp [hj]
  · simp only [World.frozen?, hh]
    rcases hU with h | h
    · simp; omega
    · simp; omega
end
def strV (s : List UInt8) : Value := .string (str s)
theorem c_sorts (ao : Option Addr) (cap E : Nat) (ss : List (List UInt8)) (hn : ss.length ≤ 1099511627776) :
    Fn Tryz.prog 131 [.slice ao ss.length cap] [own ao cap E 1 ss.length (ss.map strV)] (Ret fun v L => v = .tuple #[] ∧ L = [own ao cap E 1 ss.length ((ss.mergeSort fun x y => decide (x ≤ y)).map strV)]) := by
  refine ⟨fun w => Tryz.call131 _ _, fun g w H => ?_⟩
  have hlen : (ss.mergeSort fun x y => decide (x ≤ y)).length = ss.length := List.length_mergeSort _
  by_cases hz : ss.length = 0
  · have := List.eq_nil_of_length_eq_zero hz; subst this
    exact (Tryz.slices_Sort_string_none ao cap w).mono fun e w' ⟨h1, h2⟩ => ⟨_, ⟨_, h1, rfl, rfl⟩, by rw [h2]; simpa using H⟩
  · obtain ⟨F, hF⟩ := H.nth (k := 0) rfl
    have hpos : 0 < cap := by have := hF.2.1; omega
    obtain ⟨b, off, rfl⟩ := own_some H hpos
    obtain ⟨hH, hb⟩ := own_holds (enc := encStr) hpos H
    refine (Tryz.slices_Sort_string b off cap ss w hH hb (by omega)).mono fun e w' ⟨h1, n, os, h2⟩ => ⟨_, ⟨_, h1, rfl, rfl⟩, ?_⟩
    rw [h2]
    exact St.grow (St.putRow (enc := encStr) hlen hpos (St.ahead H))
end Go.Proofs.YtegllbmkkfnajaaGreatDoor
end
section
namespace Go.Proofs.YtegllbmkkfnajaaGreatDoor
open Go Go.Proofs
attribute [local irreducible] Go.wpList Go.Code.wp St Fn mk
set_option maxRecDepth 20000
abbrev mapT : Nat := 55
def keysC (b bm : Nat) (kvs : List KV) : List Asn := [blk b [.map (some bm)] mapT, smap bm kvs]
theorem c_keys (bm : Nat) :
    Fn Tryz.prog 94 [.map (some bm)] [] (Ret fun v L => ∃ b, v = .func (.func 132) #[] #[.pointer (some ⟨b, 0, none⟩)] ∧ L = [blk b [.map (some bm)] mapT]) := by
  refine Fn.intro Tryz.call94 Tryz.func94 rfl Tryz.ntmps94 rfl ?_; intro g w Q hQ H
  refine sq ?_; intro K1 hK1; refine wp_region_lit ?_; refine xbx H rfl rfl ?_; intro b1 w H; refine xas rfl ?_; refine wpList_nil ?_
  refine tn ?_; refine hK1 _ _ ?_; clear hK1 K1; refine sq ?_; intro K2 hK2; refine wp_region_lit ?_; refine xmf rfl rfl ?_; refine xas rfl ?_
  refine wpList_nil ?_; refine tn ?_; refine hK2 _ _ ?_; clear hK2 K2; refine wp_ret ?_
  refine hQ _ _ _ ?_; refine r1 rfl rfl H ?_
  exact ⟨_, rfl, rfl⟩
theorem c_keys1 (b bm : Nat) (kvs : List KV) (I : List (List UInt8) → Asn) :
    Its Tryz.prog 132 [.pointer (some ⟨b, 0, none⟩)] (fun s : List UInt8 => [strV s]) (fun _ => []) (fun xs => xs.Perm (kvs.map Prod.fst)) (fun _ => True) kvs.length I (fun _ _ => fct False) (keysC b bm kvs) := by
  intro l R Rx hY
  unfold keysC
  refine Fn.intro Tryz.call132 Tryz.func132 rfl Tryz.ntmps132 rfl ?_; intro g w Q hQ H
  refine sq ?_; intro K1 hK1; refine wp_region_lit ?_
  refine xldb 2 H rfl rfl rfl ?_
  refine xmr 3 H rfl rfl ?_; intro it w H
  refine wpList_nil ?_; refine tn ?_; refine hK1 _ _ ?_; clear hK1 K1; refine wp_block ?_
  refine lp3 (α := List KV) (β := List (List UInt8)) (γ := Option KV) (fun lf dn cur => [(0, .func (.yield l) #[] #[]), (1, .pointer (some ⟨b, 0, none⟩)), (5, .pointer (some ⟨it, 0, none⟩))]) (fun lf dn cur => [mrng bm it kvs lf cur, I dn, R, blk b [.map (some bm)] mapT]) (fun lf dn cur => (dn ++ lf.map Prod.fst).Perm (kvs.map Prod.fst)) (fun lf dn cur => lf.length) (kvs) ([]) (none) ⟨rfl, rfl, rfl, True.intro⟩ ((by simp)) H ?_; intro lf dn cur ρ w hI H K2 hK2
  refine sq ?_; intro K3 hK3; refine wp_region_lit ?_
  refine xmnx 0 H rfl rfl (fun hl H => ?_) (fun a p c w hl H => ?_)
  · replace H := H.unrange
    refine xex rfl rfl ?_; refine wpList_nil ?_; refine tn ?_; refine hK3 _ _ ?_; clear hK3 K3; refine sq ?_; intro K4 hK4; refine iff_ rfl ?_; refine wp_exit ?_
    refine te ?_; clear hK4 K4; refine te ?_; clear hK2 K2; refine be ?_
    replace H := H.front' [1, 1, 1] rfl rfl
    refine hQ _ _ _ ?_; refine n0 rfl H ?_
    rw [hl] at hI
    exact .inl ⟨dn, by simpa using hI, rfl⟩
  · refine xex rfl rfl ?_; refine wpList_nil ?_; refine tn ?_; refine hK3 _ _ ?_; clear hK3 K3; refine sq ?_; intro K4 hK4; refine ift rfl ?_; refine wp_skip ?_
    refine tn ?_; refine hK4 _ _ ?_; clear hK4 K4; refine wp_block ?_; refine sq ?_; intro K5 hK5; refine wp_region_lit ?_
    refine xme 0 H rfl rfl ?_
    rw [hl] at hI
    have hlen : dn.length < kvs.length := by have := hI.length_eq; simp at this; omega
    refine xex rfl rfl ?_; refine xas rfl ?_; refine wpList_nil ?_; refine tn ?_; refine hK5 _ _ ?_; clear hK5 K5; refine sq ?_; intro K6 hK6
    refine region_in ?_; refine list_at 2 rfl rfl ?_; refine xmv rfl ?_; refine xmv rfl ?_; refine wpList_nil ?_; refine qtn ?_
    refine xyd [1, 1] H (hY dn p.1 hlen) rfl rfl rfl (fun {_} => rfl) ?_; rintro _ _ w (⟨rfl, rfl⟩ | ⟨rfl, c, rfl⟩) H <;> replace H := H.ap rfl
    · refine list_all rfl ?_; refine xntt rfl ?_; refine wpList_nil ?_; refine qte ?_; refine tn ?_; refine hK6 _ _ ?_; clear hK6 K6; refine iff_ rfl ?_
      refine wp_skip ?_; refine bn ?_
      replace H := H.front' [2] rfl rfl
      refine tn ?_; refine hK2 _ _ ((a ++ c)) (dn ++ [p.1]) (some p) ⟨rfl, rfl, rfl, True.intro⟩ ?_ H ?_
      · refine List.Perm.trans ?_ hI
        simp only [List.map_append, List.map_cons, List.append_assoc]
        refine List.Perm.append_left _ ?_
        exact (List.perm_middle (l₁ := a.map Prod.fst) (l₂ := c.map Prod.fst)).symm
      · rw [hl]; simp
    · exact False.elim (St.unfct H).1
abbrev strsT : Nat := 105
def seqI (b : Nat) (pre : List (List UInt8)) : Asn :=
  exv (fun _ : Option Addr × Nat => True) fun x => [own x.1 x.2 9 1 pre.length (pre.map strV), blk b [.slice x.1 pre.length x.2] strsT]
theorem c_appseq (kf : FuncId) (lb : List Value) (A B : Asn) (S Sp : List (List UInt8) → Prop) (N : Nat) (hN : N ≤ 1099511627776)
    (hit : ∀ I : List (List UInt8) → Asn, Its Tryz.prog kf lb (fun s : List UInt8 => [strV s]) (fun _ => []) S Sp N I (fun _ _ => fct False) [A, B]) :
    Fn Tryz.prog 160 [.slice none 0 0, .func (.func kf) #[] lb.toArray] [A, B] (Ret fun v L => ∃ xs ao cap, S xs ∧ v = .slice ao xs.length cap ∧ L = [own ao cap 9 1 xs.length (xs.map strV), A, B]) := by
  refine Fn.introM Tryz.call160 Tryz.func160 rfl Tryz.ntmps160 rfl ?_; intro g w Q hQ H
  refine sq ?_; intro K1 hK1; refine wp_region_lit ?_; refine xbx H rfl rfl ?_; intro b2 w H; refine xas rfl ?_; refine wpList_nil ?_
  refine tn ?_; refine hK1 _ _ ?_; clear hK1 K1; refine sq ?_; intro K2 hK2; refine sq ?_; intro K3 hK3; refine wp_region_lit ?_; refine xmv rfl ?_
  refine wpList_nil ?_; refine tn ?_; refine hK3 _ _ ?_; clear hK3 K3; refine wp_block ?_
  replace H := H.ownNil 9 1
  replace H : St g w [seqI b2 [], A, B] := St.toexv (none, 0) trivial (H.front' [0, 0] rfl rfl)
  refine xrf (I := seqI b2) (Ix := fun _ _ => fct False) [0, 0, 0] H rfl rfl (hit (seqI b2)) (fun _ => rfl) (fun l pre x w K hN hK => ?_) (fun D xs w hS H => ?_) (fun D c pre w hS H => ?_)
  · refine wpIn_region_lit ?_; refine list_all rfl ?_; refine xas rfl ?_; refine wpList_nil ?_; refine qte ?_; refine tn ?_; refine hK _ ?_; clear hK K; intro g w H
    obtain ⟨⟨ao, cap⟩, _, H⟩ := H.unexv
    replace H : St g w [own ao cap 9 1 pre.length (pre.map strV), blk b2 [.slice ao pre.length cap] strsT] := H
    refine wpIn_block ?_; refine wpIn_region_lit ?_; refine list_all rfl ?_
    refine xldb 1 H rfl rfl rfl ?_
    refine xmv rfl ?_; refine xbs H rfl rfl rfl (by simp [Value.cells] <;> rfl) rfl rfl ?_; intro b10 w H
    refine xap 1 H rfl rfl rfl (src_at (news := [strV x]) 0 H rfl (St.ownRd H) rfl) (fun v hv => by simp at hv; subst hv; rfl) (by omega) (by simp only [maxLen]; omega) ?_; intro ao11 cap11 w H hn11
    (refine xst 2 H rfl rfl rfl rfl rfl ?_; intro w H)
    refine wpList_nil ?_; refine qte ?_; refine bn ?_
    show St g w [seqI b2 (pre ++ [x])]
    refine St.toexv (ao11, cap11) trivial ?_
    simpa using (H.front' [2] rfl rfl).drop.front' [1, 0] rfl rfl
  · simp only [List.cons_append, List.nil_append, List.append_nil] at H
    obtain ⟨⟨ao, cap⟩, _, H⟩ := (H.front' [1] rfl rfl).unexv
    replace H : St g w [own ao cap 9 1 xs.length (xs.map strV), blk b2 [.slice ao xs.length cap] strsT, obj D (.deferred (some [])), A, B] := H
    refine bn ?_; refine tn ?_; refine hK2 _ _ ?_; clear hK2 K2; refine sq ?_; intro K4 hK4; refine wp_region_lit ?_
    refine xldb 1 H rfl rfl rfl ?_
    refine xas rfl ?_; refine wpList_nil ?_; refine tn ?_; refine hK4 _ _ ?_; clear hK4 K4; refine wp_ret ?_
    refine hQ _ _ _ ?_; refine rM [2] rfl H ?_; intro w H; replace H := H.keeps [0, 1, 1] rfl; refine r1 rfl rfl H ?_
    exact ⟨xs, ao, cap, hS, rfl, rfl⟩
  · exact False.elim (St.unfct (H.front' [1] rfl rfl)).1
theorem c_collect (kf : FuncId) (lb : List Value) (A B : Asn) (S Sp : List (List UInt8) → Prop) (N : Nat) (hN : N ≤ 1099511627776)
    (hit : ∀ I : List (List UInt8) → Asn, Its Tryz.prog kf lb (fun s : List UInt8 => [strV s]) (fun _ => []) S Sp N I (fun _ _ => fct False) [A, B]) :
    Fn Tryz.prog 130 [.func (.func kf) #[] lb.toArray] [A, B] (Ret fun v L => ∃ xs ao cap, S xs ∧ v = .slice ao xs.length cap ∧ L = [own ao cap 9 1 xs.length (xs.map strV), A, B]) := by
  refine Fn.intro Tryz.call130 Tryz.func130 rfl Tryz.ntmps130 rfl ?_; intro g w Q hQ H
  refine sq ?_; intro K1 hK1; refine wp_region_lit ?_; refine xas rfl ?_; refine wpList_nil ?_; refine tn ?_; refine hK1 _ _ ?_; clear hK1 K1
  refine sq ?_; intro K2 hK2; refine wp_region_lit ?_; refine xmv rfl ?_
  refine xc [0, 0] H ((c_appseq kf lb A B S Sp N hN hit)) rfl rfl rfl rfl rfl ?_; rintro _ _ w ⟨xs, ao, cap, hS, rfl, rfl⟩ H; replace H := H.ap rfl
  refine xas rfl ?_; refine wpList_nil ?_; refine tn ?_; refine hK2 _ _ ?_; clear hK2 K2; refine wp_ret ?_
  refine hQ _ _ _ ?_; refine r1 rfl rfl H ?_
  exact ⟨xs, ao, cap, hS, rfl, rfl⟩
theorem c_sorted (kf : FuncId) (lb : List Value) (A B : Asn) (S Sp : List (List UInt8) → Prop) (N : Nat) (hN : N ≤ 1099511627776) (hS : ∀ xs, S xs → xs.length ≤ 1099511627776)
    (hit : ∀ I : List (List UInt8) → Asn, Its Tryz.prog kf lb (fun s : List UInt8 => [strV s]) (fun _ => []) S Sp N I (fun _ _ => fct False) [A, B]) :
    Fn Tryz.prog 93 [.func (.func kf) #[] lb.toArray] [A, B] (Ret fun v L => ∃ xs ao cap, S xs ∧ v = .slice ao xs.length cap ∧ L = [own ao cap 9 1 xs.length ((xs.mergeSort fun x y => decide (x ≤ y)).map strV), A, B]) := by
  refine Fn.intro Tryz.call93 Tryz.func93 rfl Tryz.ntmps93 rfl ?_; intro g w Q hQ H
  refine sq ?_; intro K1 hK1; refine wp_region_lit ?_; refine xas rfl ?_; refine wpList_nil ?_; refine tn ?_; refine hK1 _ _ ?_; clear hK1 K1
  refine sq ?_; intro K2 hK2; refine wp_region_lit ?_; refine xmv rfl ?_
  refine xc [0, 0] H ((c_collect kf lb A B S Sp N hN hit)) rfl rfl rfl rfl rfl ?_; rintro _ _ w ⟨xs, ao, cap, hS1, rfl, rfl⟩ H; replace H := H.ap rfl
  refine xas rfl ?_; refine wpList_nil ?_; refine tn ?_; refine hK2 _ _ ?_; clear hK2 K2; refine sq ?_; intro K3 hK3; refine wp_region_lit ?_; refine xmv rfl ?_
  refine xc [0] H ((c_sorts ao cap 9 xs (hS xs hS1))) rfl rfl rfl rfl rfl ?_; rintro _ _ w ⟨rfl, rfl⟩ H; replace H := H.ap rfl
  refine wpList_nil ?_; refine tn ?_; refine hK3 _ _ ?_; clear hK3 K3; refine sq ?_; intro K4 hK4; refine wp_region_lit ?_; refine xmv rfl ?_; refine xas rfl ?_
  refine wpList_nil ?_; refine tn ?_; refine hK4 _ _ ?_; clear hK4 K4; refine wp_ret ?_
  refine hQ _ _ _ ?_; refine r1 rfl rfl H ?_
  exact ⟨xs, ao, cap, hS1, rfl, rfl⟩
def Dsk.list (D : Dsk) : List (List UInt8) := (D.files.map DFile.name).mergeSort fun x y => decide (x ≤ y)
theorem sort_perm {xs ys : List (List UInt8)} (h : xs.Perm ys) : (xs.mergeSort fun x y => decide (x ≤ y)) = ys.mergeSort fun x y => decide (x ≤ y) := by
  have tr : ∀ a b c : List UInt8, decide (a ≤ b) = true → decide (b ≤ c) = true → decide (a ≤ c) = true := by
    intro a b c h1 h2; exact decide_eq_true (List.le_trans (of_decide_eq_true h1) (of_decide_eq_true h2))
  have to : ∀ a b : List UInt8, (decide (a ≤ b) || decide (b ≤ a)) = true := by
    intro a b; rcases List.le_total a b with h | h <;> simp [h]
  have s1 := List.pairwise_mergeSort tr to xs
  have s2 := List.pairwise_mergeSort tr to ys
  have hp := ((List.mergeSort_perm xs fun x y => decide (x ≤ y)).trans h).trans (List.mergeSort_perm ys fun x y => decide (x ≤ y)).symm
  exact hp.eq_of_pairwise (fun a b _ _ h1 h2 => List.le_antisymm (of_decide_eq_true h1) (of_decide_eq_true h2)) s1 s2
theorem c_dlist (b : Nat) (D : Dsk) (hD : D.files.length ≤ 1099511627776) :
    Fn Tryz.prog 59 [.pointer (some ⟨b, 0, none⟩)] [dskC b D] (Ret fun v L => ∃ ao cap, v = .slice ao D.list.length cap ∧ L = [own ao cap 9 1 D.list.length (D.list.map strV), dskC b D]) := by
  refine Fn.intro Tryz.call59 Tryz.func59 rfl Tryz.ntmps59 rfl ?_; intro g w Q hQ H
  obtain ⟨bm, ps, hps, H⟩ := H.undsk
  have hfl : D.files.length = ps.length := by rw [← hps]; simp
  have hnm : ((ps.map FP.kv).map Prod.fst) = D.files.map DFile.name := by rw [← hps]; simp [Function.comp_def, FP.kv]
  refine sq ?_; intro K1 hK1; refine wp_region_lit ?_; refine xas rfl ?_; refine wpList_nil ?_; refine tn ?_; refine hK1 _ _ ?_; clear hK1 K1
  refine sq ?_; intro K2 hK2; refine sq ?_; intro K3 hK3; refine wp_region_lit ?_; refine xmv rfl ?_; refine xpns rfl rfl ?_; refine wpList_nil ?_
  refine tn ?_; refine hK3 _ _ ?_; clear hK3 K3; refine iff_ rfl ?_; refine wp_skip ?_; refine tn ?_; refine hK2 _ _ ?_; clear hK2 K2; refine sq ?_; intro K4 hK4
  refine wp_region_lit ?_; refine xmv rfl ?_
  refine xnc rfl ?_
  refine xfa rfl ?_
  refine xldb 0 H rfl rfl rfl ?_
  refine xc [] H ((c_keys bm)) rfl rfl rfl rfl rfl ?_; rintro _ _ w ⟨b2, rfl, rfl⟩ H; replace H := H.ap rfl
  refine xc [0, 1] H ((c_sorted _ [.pointer (some ⟨b2, 0, none⟩)] (blk b2 [.map (some bm)] mapT) (smap bm (ps.map FP.kv)) _ _ _ (by simp; omega) (fun xs h => by rw [h.length_eq]; simp; omega) (fun I => c_keys1 b2 bm (ps.map FP.kv) I))) rfl rfl rfl rfl rfl ?_; rintro _ _ w ⟨xs, ao, cap, hS, rfl, rfl⟩ H; replace H := H.ap rfl
  refine xas rfl ?_; refine wpList_nil ?_; refine tn ?_; refine hK4 _ _ ?_; clear hK4 K4; refine wp_ret ?_
  rw [hnm] at hS
  have hsl : (xs.mergeSort fun x y => decide (x ≤ y)) = D.list := sort_perm hS
  have hll : xs.length = D.list.length := by rw [← hsl, List.length_mergeSort]
  rw [hsl, hll] at H
  rw [hll]
  replace H := St.todsk hps (H.front' [3, 2, 2] rfl rfl)
  replace H := H.keeps [1, 0] rfl; refine hQ _ _ _ ?_; refine r1 rfl rfl H ?_
  exact ⟨ao, cap, rfl, rfl⟩
end Go.Proofs.YtegllbmkkfnajaaGreatDoor
end
section
namespace Go.Proofs.YtegllbmkkfnajaaGreatDoor
open Go Go.Proofs
attribute [local irreducible] Go.wpList Go.Code.wp St Fn mk
set_option maxRecDepth 20000
def uV (n : Nat) : Value := .int .u64 n
theorem c_unan (x : Nat) : Fn Tryz.prog 181 [.int .u64 x] [] (Ret fun v L => v = .bool false ∧ L = []) := by
  refine Fn.intro Tryz.call181 Tryz.func181 rfl Tryz.ntmps181 rfl ?_; intro g w Q hQ H
  refine sq ?_; intro K1 hK1; refine wp_region_lit ?_; refine xas rfl ?_; refine wpList_nil ?_; refine tn ?_; refine hK1 _ _ ?_; clear hK1 K1
  refine sq ?_; intro K2 hK2; refine wp_region_lit ?_; refine xmv rfl ?_; refine xmv rfl ?_; refine xne rfl rfl ?_; refine xas rfl ?_; refine wpList_nil ?_
  refine tn ?_; refine hK2 _ _ ?_; clear hK2 K2; refine wp_ret ?_
  refine hQ _ _ _ ?_; refine r1 rfl rfl H ?_
  exact ⟨by simp, rfl⟩
theorem c_uless (x y : Nat) : Fn Tryz.prog 155 [.int .u64 x, .int .u64 y] [] (Ret fun v L => v = .bool (decide (x < y)) ∧ L = []) := by
  refine Fn.intro Tryz.call155 Tryz.func155 rfl Tryz.ntmps155 rfl ?_; intro g w Q hQ H
  refine sq ?_; intro K1 hK1; refine wp_region_lit ?_; refine xas rfl ?_; refine wpList_nil ?_; refine tn ?_; refine hK1 _ _ ?_; clear hK1 K1
  refine sq ?_; intro K2 hK2; refine wp_region_lit ?_; refine xmv rfl ?_
  refine xc [] H ((c_unan x)) rfl rfl rfl rfl rfl ?_; rintro _ _ w ⟨rfl, rfl⟩ H; replace H := H.ap rfl
  refine xmv rfl ?_; refine xgn rfl rfl rfl ?_; refine xgn rfl rfl rfl ?_; refine xgn rfl rfl rfl ?_; refine xpkf rfl rfl ?_; refine xmv rfl ?_
  refine xgy rfl rfl rfl ?_; refine xmv rfl ?_; refine xgy rfl rfl rfl ?_; refine xmv rfl ?_; refine xgy rfl rfl rfl ?_; refine xlt rfl rfl ?_
  refine xpkf rfl rfl ?_; refine xas rfl ?_; refine wpList_nil ?_; refine tn ?_; refine hK2 _ _ ?_; clear hK2 K2; refine wp_ret ?_
  refine hQ _ _ _ ?_; refine r1 rfl rfl H ?_
  exact ⟨by simp, rfl⟩
theorem srt_le {ns : List Nat} (h : ns.Pairwise (· ≤ ·)) {i j : Nat} (hi : i ≤ j) (hj : j < ns.length) : ns[i]'(by omega) ≤ ns[j] := by
  rcases Nat.lt_or_eq_of_le hi with h1 | rfl
  · exact List.pairwise_iff_getElem.1 h i j _ _ h1
  · exact Nat.le_refl _
theorem uv_get {ns : List Nat} {j : Nat} (hj : j < ns.length) : (ns.map uV)[j]? = some (uV ns[j]) := by simp [hj]
theorem uv_cell {A : Asn} {b off : Nat} {ns : List Nat} (hC : Cells A b off (ns.map uV)) {j : Nat} (hj : j < ns.length) : A.cell ⟨b, off + j * 1, none⟩ (.int .u64 ns[j]) := by
  rw [Nat.mul_one]; exact hC j _ (uv_get hj)
theorem c_uins0 (ao : Option Addr) (cap : Nat) :
    Fn Tryz.prog 149 [.slice ao 0 cap, .int .i64 0, .int .i64 0] [] (Ret fun v L => v = .tuple #[] ∧ L = []) := by
  refine Fn.intro Tryz.call149 Tryz.func149 rfl Tryz.ntmps149 rfl ?_; intro g w Q hQ H
  refine sq ?_; intro K1 hK1; refine wp_region_lit ?_; refine xmv rfl ?_
  refine xadi rfl rfl (wi64 (by omega)) ?_
  refine xas rfl ?_; refine wpList_nil ?_; refine tn ?_; refine hK1 _ _ ?_; clear hK1 K1; refine wp_block ?_
  refine lp (α := Nat) (fun i => [(2, .int .i64 0), (6, .int .i64 i)]) (fun i => []) (fun i => 1 ≤ i) (fun i => i) (1) ⟨rfl, rfl, True.intro⟩ ((by omega)) H ?_; intro i ρ w hI H K2 hK2
  refine sq ?_; intro K3 hK3; refine sq ?_; intro K4 hK4; refine wp_region_lit ?_; refine xmv rfl ?_; refine xmv rfl ?_; refine xlt rfl rfl ?_
  refine wpList_nil ?_; refine tn ?_; refine hK4 _ _ ?_; clear hK4 K4
  refine if_ rfl (fun k1 => ?_) (fun k1 => ?_)
  · exact absurd k1 (by simp)
  · refine wp_exit ?_; refine te ?_; clear hK3 K3; refine te ?_; clear hK2 K2; refine be ?_
    refine hQ _ _ _ ?_; refine n0 rfl H ?_
    exact ⟨rfl, rfl⟩
theorem c_uins (A : Asn) (b off cap : Nat) (ns : List Nat) (hC : Cells A b off (ns.map uV)) (hs : ns.Pairwise (· ≤ ·)) (hn : ns.length ≤ 1099511627776) :
    Fn Tryz.prog 149 [.slice (some ⟨b, off, none⟩) ns.length cap, .int .i64 0, .int .i64 ns.length] [A] (Ret fun v L => v = .tuple #[] ∧ L = [A]) := by
  refine Fn.intro Tryz.call149 Tryz.func149 rfl Tryz.ntmps149 rfl ?_; intro g w Q hQ H
  refine sq ?_; intro K1 hK1; refine wp_region_lit ?_; refine xmv rfl ?_
  refine xadi rfl rfl (wi64 (by omega)) ?_
  refine xas rfl ?_; refine wpList_nil ?_; refine tn ?_; refine hK1 _ _ ?_; clear hK1 K1; refine wp_block ?_
  refine lp (α := Nat) (fun i => [(0, .slice (some ⟨b, off, none⟩) ns.length cap), (1, .int .i64 0), (2, .int .i64 ns.length), (6, .int .i64 i)]) (fun i => [A]) (fun i => 1 ≤ i) (fun i => ns.length - i) (1) ⟨rfl, rfl, rfl, rfl, True.intro⟩ ((Nat.le_refl 1)) H ?_; intro i ρ w hI H K2 hK2
  refine sq ?_; intro K3 hK3; refine sq ?_; intro K4 hK4; refine wp_region_lit ?_; refine xmv rfl ?_; refine xmv rfl ?_; refine xlt rfl rfl ?_
  refine wpList_nil ?_; refine tn ?_; refine hK4 _ _ ?_; clear hK4 K4
  refine if_ rfl (fun k1 => ?_) (fun k1 => ?_)
  · have k1 : i < ns.length := by simpa using k1
    refine wp_skip ?_; refine tn ?_; refine hK3 _ _ ?_; clear hK3 K3; refine sq ?_; intro K5 hK5; refine wp_block ?_; refine sq ?_; intro K6 hK6
    refine wp_region_lit ?_; refine xmv rfl ?_; refine xas rfl ?_; refine wpList_nil ?_; refine tn ?_; refine hK6 _ _ ?_; clear hK6 K6; refine wp_block ?_
    refine lp (α := Unit) (fun u => [(0, .slice (some ⟨b, off, none⟩) ns.length cap), (1, .int .i64 0), (2, .int .i64 ns.length), (6, .int .i64 i), (7, .int .i64 i)]) (fun u => [A]) (fun u => True) (fun u => 0) (()) ⟨rfl, rfl, rfl, rfl, rfl, True.intro⟩ (trivial) H ?_; intro u ρ w hI H K7 hK7
    refine sq ?_; intro K8 hK8; refine sq ?_; intro K9 hK9; refine drws (m := 15) 100000 rfl rfl H ?_; clear H; intro w H
    refine dt' 0 rfl (by kernel_rfl) H (ymv rfl) ?_; refine dt' 1 rfl (by kernel_rfl) H (ymv rfl) ?_; refine dt' 2 rfl (by kernel_rfl) H (ygt rfl rfl) ?_
    refine dt' 3 rfl (by kernel_rfl) H (ymv rfl) ?_
    refine gspH 19 rfl (fun k2 => ?_) (fun k2 => ?_)
    · have hi1 : i - 1 < ns.length := by omega
      have hle := srt_le hs (Nat.sub_le i 1) k1
      refine dgy 4 rfl rfl rfl rfl (by kernel_rfl) H (fun w _ => (ymv rfl) w) ?_; refine dgy 5 rfl rfl rfl rfl (by kernel_rfl) H (fun w _ => (ymv rfl) w) ?_
      refine dgy 8 rfl rfl rfl rfl (by kernel_rfl) H (fun w _ => (ymv rfl) w) ?_; refine dgy 9 rfl rfl rfl rfl (by kernel_rfl) H (fun w _ => (ymv rfl) w) ?_
      refine dgy 10 rfl rfl rfl rfl (by kernel_rfl) H (fun w _ => (ysbi rfl rfl (wi64 (by omega))) w) ?_
      refine dgy 6 rfl rfl rfl rfl (by kernel_rfl) H (fun w _ => (yia (j := i) rfl rfl rfl k1) w) ?_
      refine dgy 7 rfl rfl rfl rfl (by kernel_rfl) H (zld 0 rfl rfl (uv_cell hC k1)) ?_
      refine dgy 11 rfl rfl rfl rfl (by kernel_rfl) H (fun w _ => (yia (j := i - 1) rfl rfl (by omega) hi1) w) ?_
      refine dgy 12 rfl rfl rfl rfl (by kernel_rfl) H (zld 0 rfl rfl (uv_cell hC hi1)) ?_
      refine do1 13 rfl (by kernel_rfl) ?_; intro K10 hK10; refine xgy rfl rfl rfl ?_
      refine xc [] H ((c_uless ns[i] ns[i - 1])) rfl rfl rfl rfl rfl ?_; rintro _ _ w ⟨rfl, rfl⟩ H; replace H := H.ap rfl
      have hnl : decide (ns[i] < ns[i - 1]) = false := by simpa using hle
      rw [hnl]
      refine wpList_nil ?_; refine tn ?_; refine hK10 _ _ (fun _ => H) ?_; clear hK10 K10; refine dt' 14 rfl (by kernel_rfl) H (ypkt rfl rfl) ?_
      refine dd (by kernel_rfl) ?_; refine tn ?_; refine hK9 _ _ ?_; clear hK9 K9; refine iff_ rfl ?_; refine wp_exit ?_; refine te ?_; clear hK8 K8
      refine te ?_; clear hK7 K7; refine be ?_; refine bn ?_; refine tn ?_; refine hK5 _ _ ?_; clear hK5 K5; refine wp_region_lit ?_; refine xmv rfl ?_
      refine xadi rfl rfl (wi64 (by omega)) ?_
      refine xas rfl ?_; refine wpList_nil ?_
      refine tn ?_; refine hK2 _ _ (i + 1) ⟨rfl, rfl, rfl, rfl, True.intro⟩ ?_ H ?_
      · omega
      · omega
    · exact absurd k2 (by simp; omega)
  · refine wp_exit ?_; refine te ?_; clear hK3 K3; refine te ?_; clear hK2 K2; refine be ?_
    refine hQ _ _ _ ?_; refine n0 rfl H ?_
    exact ⟨rfl, rfl⟩
theorem c_uord (A : Asn) (b off cap : Nat) (ns : List Nat) (hC : Cells A b off (ns.map uV)) (hs : ns.Pairwise (· ≤ ·)) (q i j : Nat) (hij : i ≤ j) (hj : j < ns.length) :
    Fn Tryz.prog 195 [.slice (some ⟨b, off, none⟩) ns.length cap, .int .i64 i, .int .i64 j, .pointer (some ⟨q, 0, none⟩)] [A] (Ret fun v L => v = .tuple #[.int .i64 i, .int .i64 j] ∧ L = [A]) := by
  have hi : i < ns.length := by omega
  have hle := srt_le hs hij hj
  refine Fn.intro Tryz.call195 Tryz.func195 rfl Tryz.ntmps195 rfl ?_; intro g w Q hQ H
  refine sq ?_; intro K1 hK1; refine wp_region_lit ?_; refine xas rfl ?_; refine xas rfl ?_; refine wpList_nil ?_; refine tn ?_; refine hK1 _ _ ?_; clear hK1 K1
  refine sq ?_; intro K2 hK2; refine sq ?_; intro K3 hK3
  refine drws (m := 9) 100000 rfl rfl H ?_; clear H; intro w H; refine dt' 0 rfl (by kernel_rfl) H (ymv rfl) ?_; refine dt' 1 rfl (by kernel_rfl) H (ymv rfl) ?_
  refine dt' 4 rfl (by kernel_rfl) H (ymv rfl) ?_; refine dt' 5 rfl (by kernel_rfl) H (ymv rfl) ?_
  refine dt' 2 rfl (by kernel_rfl) H (yia (j := j) rfl rfl rfl hj) ?_
  refine dt 3 rfl (by kernel_rfl) H (zld 0 rfl rfl (uv_cell hC hj)) ?_
  refine dt' 6 rfl (by kernel_rfl) H (yia (j := i) rfl rfl rfl hi) ?_
  refine dt 7 rfl (by kernel_rfl) H (zld 0 rfl rfl (uv_cell hC hi)) ?_
  refine do1 8 rfl (by kernel_rfl) ?_; intro K4 hK4
  refine xc [] H ((c_uless ns[j] ns[i])) rfl rfl rfl rfl rfl ?_; rintro _ _ w ⟨rfl, rfl⟩ H; replace H := H.ap rfl
  have hnl : decide (ns[j] < ns[i]) = false := by simpa using hle
  rw [hnl]
  refine wpList_nil ?_; refine tn ?_; refine hK4 _ _ (fun _ => H) ?_; clear hK4 K4; refine dd (by kernel_rfl) ?_; refine tn ?_; refine hK3 _ _ ?_; clear hK3 K3
  refine iff_ rfl ?_; refine wp_skip ?_; refine tn ?_; refine hK2 _ _ ?_; clear hK2 K2; refine sq ?_; intro K5 hK5; refine wp_region_lit ?_; refine xmv rfl ?_
  refine xmv rfl ?_; refine xas rfl ?_; refine xas rfl ?_; refine wpList_nil ?_; refine tn ?_; refine hK5 _ _ ?_; clear hK5 K5; refine wp_ret ?_
  refine hQ _ _ _ ?_; refine r2 rfl rfl rfl H ?_
  exact ⟨rfl, rfl⟩
theorem c_umed (A : Asn) (b off cap : Nat) (ns : List Nat) (hC : Cells A b off (ns.map uV)) (hs : ns.Pairwise (· ≤ ·)) (q i j k : Nat) (hij : i ≤ j) (hjk : j ≤ k) (hk : k < ns.length) :
    Fn Tryz.prog 180 [.slice (some ⟨b, off, none⟩) ns.length cap, .int .i64 i, .int .i64 j, .int .i64 k, .pointer (some ⟨q, 0, none⟩)] [A] (Ret fun v L => v = .int .i64 j ∧ L = [A]) := by
  refine Fn.intro Tryz.call180 Tryz.func180 rfl Tryz.ntmps180 rfl ?_; intro g w Q hQ H
  refine sq ?_; intro K1 hK1; refine wp_region_lit ?_; refine xas rfl ?_; refine wpList_nil ?_; refine tn ?_; refine hK1 _ _ ?_; clear hK1 K1
  refine sq ?_; intro K2 hK2; refine wp_region_lit ?_; refine xmv rfl ?_; refine xmv rfl ?_; refine xmv rfl ?_; refine xmv rfl ?_
  refine xc [0] H ((c_uord A b off cap ns hC hs q i j hij (by omega))) rfl rfl rfl rfl rfl ?_; rintro _ _ w ⟨rfl, rfl⟩ H; replace H := H.ap rfl
  refine xmv rfl ?_; refine xex rfl rfl ?_; refine xex rfl rfl ?_; refine xas rfl ?_; refine xas rfl ?_; refine wpList_nil ?_
  refine tn ?_; refine hK2 _ _ ?_; clear hK2 K2; refine sq ?_; intro K3 hK3; refine wp_region_lit ?_; refine xmv rfl ?_; refine xmv rfl ?_; refine xmv rfl ?_
  refine xmv rfl ?_
  refine xc [0] H ((c_uord A b off cap ns hC hs q j k hjk hk)) rfl rfl rfl rfl rfl ?_; rintro _ _ w ⟨rfl, rfl⟩ H; replace H := H.ap rfl
  refine xmv rfl ?_; refine xex rfl rfl ?_; refine xex rfl rfl ?_; refine xas rfl ?_; refine xas rfl ?_; refine wpList_nil ?_
  refine tn ?_; refine hK3 _ _ ?_; clear hK3 K3; refine sq ?_; intro K4 hK4; refine wp_region_lit ?_; refine xmv rfl ?_; refine xmv rfl ?_; refine xmv rfl ?_
  refine xmv rfl ?_
  refine xc [0] H ((c_uord A b off cap ns hC hs q i j hij (by omega))) rfl rfl rfl rfl rfl ?_; rintro _ _ w ⟨rfl, rfl⟩ H; replace H := H.ap rfl
  refine xmv rfl ?_; refine xex rfl rfl ?_; refine xex rfl rfl ?_; refine xas rfl ?_; refine xas rfl ?_; refine wpList_nil ?_
  refine tn ?_; refine hK4 _ _ ?_; clear hK4 K4; refine sq ?_; intro K5 hK5; refine wp_region_lit ?_; refine xmv rfl ?_; refine xas rfl ?_; refine wpList_nil ?_
  refine tn ?_; refine hK5 _ _ ?_; clear hK5 K5; refine wp_ret ?_
  refine hQ _ _ _ ?_; refine r1 rfl rfl H ?_
  exact ⟨rfl, rfl⟩
theorem c_umad (A : Asn) (b off cap : Nat) (ns : List Nat) (hC : Cells A b off (ns.map uV)) (hs : ns.Pairwise (· ≤ ·)) (q i : Nat) (hi : 1 ≤ i) (hk : i + 1 < ns.length) (hn : ns.length ≤ 1099511627776) :
    Fn Tryz.prog 179 [.slice (some ⟨b, off, none⟩) ns.length cap, .int .i64 i, .pointer (some ⟨q, 0, none⟩)] [A] (Ret fun v L => v = .int .i64 i ∧ L = [A]) := by
  refine Fn.intro Tryz.call179 Tryz.func179 rfl Tryz.ntmps179 rfl ?_; intro g w Q hQ H
  refine sq ?_; intro K1 hK1; refine wp_region_lit ?_; refine xas rfl ?_; refine wpList_nil ?_; refine tn ?_; refine hK1 _ _ ?_; clear hK1 K1
  refine sq ?_; intro K2 hK2; refine wp_region_lit ?_; refine xmv rfl ?_; refine xmv rfl ?_
  refine xsbi rfl rfl (wi64 (by omega)) ?_
  refine xmv rfl ?_; refine xmv rfl ?_
  refine xadi rfl rfl (wi64 (by omega)) ?_
  refine xmv rfl ?_
  rw [show ((i : Int) - 1) = ((i - 1 : Nat) : Int) by omega, show ((i : Int) + 1) = ((i + 1 : Nat) : Int) by omega]
  refine xc [0] H ((c_umed A b off cap ns hC hs q (i - 1) i (i + 1) (by omega) (by omega) (by omega))) rfl rfl rfl rfl rfl ?_; rintro _ _ w ⟨rfl, rfl⟩ H; replace H := H.ap rfl
  refine xas rfl ?_; refine wpList_nil ?_; refine tn ?_; refine hK2 _ _ ?_; clear hK2 K2; refine wp_ret ?_
  refine hQ _ _ _ ?_; refine r1 rfl rfl H ?_
  exact ⟨rfl, rfl⟩
theorem c_upiv (A : Asn) (b off cap : Nat) (ns : List Nat) (hC : Cells A b off (ns.map uV)) (hs : ns.Pairwise (· ≤ ·)) (h12 : 12 < ns.length) (hn : ns.length ≤ 1099511627776) :
    Fn Tryz.prog 152 [.slice (some ⟨b, off, none⟩) ns.length cap, .int .i64 0, .int .i64 ns.length] [A] (Ret fun v L => ∃ p : Nat, p < ns.length ∧ v = .tuple #[.int .i64 p, .int .i64 1] ∧ L = [A]) := by
  refine Fn.intro Tryz.call152 Tryz.func152 rfl Tryz.ntmps152 rfl ?_; intro g w Q hQ H
  refine sq ?_; intro K1 hK1; refine wp_region_lit ?_; refine xas rfl ?_; refine xas rfl ?_; refine wpList_nil ?_; refine tn ?_; refine hK1 _ _ ?_; clear hK1 K1
  refine sq ?_; intro K2 hK2; refine wp_region_lit ?_; refine xmv rfl ?_; refine xmv rfl ?_
  refine xsbi rfl rfl (wi64 (by omega)) ?_
  refine xas rfl ?_; refine wpList_nil ?_; refine tn ?_; refine hK2 _ _ ?_; clear hK2 K2; refine sq ?_; intro K3 hK3; refine wp_region_lit ?_
  refine xal H ?_; intro b9 w H; refine wpList_nil ?_; refine tn ?_; refine hK3 _ _ ?_; clear hK3 K3; refine sq ?_; intro K4 hK4; refine wp_region_lit ?_
  refine xmv rfl ?_; refine xmv rfl ?_
  refine xqu rfl rfl (by omega) ?_
  refine xml rfl rfl ?_
  refine xad rfl rfl ?_
  refine xas rfl ?_; refine wpList_nil ?_; refine tn ?_; refine hK4 _ _ ?_; clear hK4 K4; refine sq ?_; intro K5 hK5; refine wp_region_lit ?_; refine xmv rfl ?_
  refine xmv rfl ?_
  refine xqu rfl rfl (by omega) ?_
  refine xml rfl rfl ?_
  refine xad rfl rfl ?_
  refine xas rfl ?_; refine wpList_nil ?_; refine tn ?_; refine hK5 _ _ ?_; clear hK5 K5; refine sq ?_; intro K6 hK6; refine wp_region_lit ?_; refine xmv rfl ?_
  refine xmv rfl ?_
  refine xqu rfl rfl (by omega) ?_
  refine xml rfl rfl ?_
  refine xad rfl rfl ?_
  refine xas rfl ?_; refine wpList_nil ?_; refine tn ?_; refine hK6 _ _ ?_; clear hK6 K6; refine sq ?_; intro K7 hK7; refine sq ?_; intro K8 hK8
  refine wp_region_lit ?_; refine xmv rfl ?_; refine xge rfl rfl ?_; refine wpList_nil ?_; refine tn ?_; refine hK8 _ _ ?_; clear hK8 K8
  have e0 : ((ns.length : Int) - 0).tdiv 4 = ((ns.length / 4 : Nat) : Int) := by rw [Int.sub_zero]; rfl
  obtain ⟨m, hm⟩ : ∃ m, ns.length / 4 = m := ⟨_, rfl⟩
  rw [hm] at e0
  have hm3 : 3 * m + 1 < ns.length := by omega
  have hm1 : 1 ≤ m := by omega
  have e1 : IntKind.i64.wrap (m : Int) = (m : Int) := wi64 (by omega)
  have e2 : (m : Int) * 1 = (m : Int) := by omega
  have e3 : IntKind.i64.wrap ((m : Int) * 2) = ((2 * m : Nat) : Int) := by rw [wi64 (by omega)]; omega
  have e4 : IntKind.i64.wrap ((m : Int) * 3) = ((3 * m : Nat) : Int) := by rw [wi64 (by omega)]; omega
  have e5 : (0 : Int) + (m : Int) = (m : Int) := by omega
  have e6 : IntKind.i64.wrap ((0 : Int) + ((2 * m : Nat) : Int)) = ((2 * m : Nat) : Int) := by rw [wi64 (by omega)]; omega
  have e7 : IntKind.i64.wrap ((0 : Int) + ((3 * m : Nat) : Int)) = ((3 * m : Nat) : Int) := by rw [wi64 (by omega)]; omega
  simp only [e0, e1, e2, e3, e4, e5, e6, e7]
  refine if_ rfl (fun k1 => ?_) (fun k1 => ?_)
  · refine sq ?_; intro K9 hK9; refine sq ?_; intro K10 hK10; refine wp_region_lit ?_; refine xmv rfl ?_; refine xge rfl rfl ?_; refine wpList_nil ?_
    refine tn ?_; refine hK10 _ _ ?_; clear hK10 K10
    refine if_ rfl (fun k2 => ?_) (fun k2 => ?_)
    · refine sq ?_; intro K11 hK11; refine wp_region_lit ?_; refine xmv rfl ?_; refine xmv rfl ?_
      refine xc [1] H ((c_umad A b off cap ns hC hs b9 m (by omega) (by omega) hn)) rfl rfl rfl rfl rfl ?_; rintro _ _ w ⟨rfl, rfl⟩ H; replace H := H.ap rfl
      refine xas rfl ?_; refine wpList_nil ?_; refine tn ?_; refine hK11 _ _ ?_; clear hK11 K11; refine sq ?_; intro K12 hK12; refine wp_region_lit ?_
      refine xmv rfl ?_; refine xmv rfl ?_
      refine xc [0] H ((c_umad A b off cap ns hC hs b9 (2 * m) (by omega) (by omega) hn)) rfl rfl rfl rfl rfl ?_; rintro _ _ w ⟨rfl, rfl⟩ H; replace H := H.ap rfl
      refine xas rfl ?_; refine wpList_nil ?_; refine tn ?_; refine hK12 _ _ ?_; clear hK12 K12; refine wp_region_lit ?_; refine xmv rfl ?_; refine xmv rfl ?_
      refine xc [0] H ((c_umad A b off cap ns hC hs b9 (3 * m) (by omega) (by omega) hn)) rfl rfl rfl rfl rfl ?_; rintro _ _ w ⟨rfl, rfl⟩ H; replace H := H.ap rfl
      refine xas rfl ?_; refine wpList_nil ?_; refine tn ?_; refine hK9 _ _ ?_; clear hK9 K9; refine wp_region_lit ?_; refine xmv rfl ?_; refine xmv rfl ?_
      refine xmv rfl ?_; refine xmv rfl ?_
      refine xc [0] H ((c_umed A b off cap ns hC hs b9 m (2 * m) (3 * m) (by omega) (by omega) (by omega))) rfl rfl rfl rfl rfl ?_; rintro _ _ w ⟨rfl, rfl⟩ H; replace H := H.ap rfl
      refine xas rfl ?_; refine wpList_nil ?_; refine tn ?_; refine hK7 _ _ ?_; clear hK7 K7; refine sq ?_; intro K13 hK13; refine wp_region_lit ?_
      refine xldb 1 H rfl rfl rfl ?_
      refine wpList_nil ?_; refine tn ?_; refine hK13 _ _ ?_; clear hK13 K13; refine wp_block ?_; refine sq ?_; intro K14 hK14; refine wp_region_lit ?_
      refine xeq rfl rfl ?_; refine xas rfl ?_; refine wpList_nil ?_; refine tn ?_; refine hK14 _ _ ?_; clear hK14 K14; refine ift rfl ?_; refine sq ?_; intro K15 hK15
      refine wp_region_lit ?_; refine xmv rfl ?_; refine xas rfl ?_; refine xas rfl ?_; refine wpList_nil ?_; refine tn ?_; refine hK15 _ _ ?_; clear hK15 K15
      refine wp_ret ?_; refine br ?_
      replace H := H.keeps [0] rfl; refine hQ _ _ _ ?_; refine r2 rfl rfl rfl H ?_
      exact ⟨_, by omega, rfl, rfl⟩
    · refine wp_skip ?_; refine tn ?_; refine hK9 _ _ ?_; clear hK9 K9; refine wp_region_lit ?_; refine xmv rfl ?_; refine xmv rfl ?_; refine xmv rfl ?_
      refine xmv rfl ?_
      refine xc [1] H ((c_umed A b off cap ns hC hs b9 m (2 * m) (3 * m) (by omega) (by omega) (by omega))) rfl rfl rfl rfl rfl ?_; rintro _ _ w ⟨rfl, rfl⟩ H; replace H := H.ap rfl
      refine xas rfl ?_; refine wpList_nil ?_; refine tn ?_; refine hK7 _ _ ?_; clear hK7 K7; refine sq ?_; intro K11 hK11; refine wp_region_lit ?_
      refine xldb 1 H rfl rfl rfl ?_
      refine wpList_nil ?_; refine tn ?_; refine hK11 _ _ ?_; clear hK11 K11; refine wp_block ?_; refine sq ?_; intro K12 hK12; refine wp_region_lit ?_
      refine xeq rfl rfl ?_; refine xas rfl ?_; refine wpList_nil ?_; refine tn ?_; refine hK12 _ _ ?_; clear hK12 K12; refine ift rfl ?_; refine sq ?_; intro K13 hK13
      refine wp_region_lit ?_; refine xmv rfl ?_; refine xas rfl ?_; refine xas rfl ?_; refine wpList_nil ?_; refine tn ?_; refine hK13 _ _ ?_; clear hK13 K13
      refine wp_ret ?_; refine br ?_
      replace H := H.keeps [0] rfl; refine hQ _ _ _ ?_; refine r2 rfl rfl rfl H ?_
      exact ⟨_, by omega, rfl, rfl⟩
  · exact absurd k1 (by simp; omega)
theorem c_upart (A : Asn) (b off cap : Nat) (ns : List Nat) (hC : Cells A b off (ns.map uV)) (hs : ns.Pairwise (· ≤ ·)) (h12 : 12 < ns.length) (hn : ns.length ≤ 1099511627776) :
    Fn Tryz.prog 154 [.slice (some ⟨b, off, none⟩) ns.length cap, .int .i64 0, .int .i64 ns.length] [A] (Ret fun v L => v = .bool true ∧ L = [A]) := by
  refine Fn.intro Tryz.call154 Tryz.func154 rfl Tryz.ntmps154 rfl ?_; intro g w Q hQ H
  refine sq ?_; intro K1 hK1; refine wp_region_lit ?_; refine xas rfl ?_; refine wpList_nil ?_; refine tn ?_; refine hK1 _ _ ?_; clear hK1 K1
  refine sq ?_; intro K2 hK2; refine wp_region_lit ?_; refine xmv rfl ?_
  refine xadi rfl rfl (wi64 (by omega)) ?_
  refine xas rfl ?_; refine wpList_nil ?_; refine tn ?_; refine hK2 _ _ ?_; clear hK2 K2; refine sq ?_; intro K3 hK3; refine sq ?_; intro K4 hK4
  refine wp_region_lit ?_; refine xas rfl ?_; refine wpList_nil ?_; refine tn ?_; refine hK4 _ _ ?_; clear hK4 K4; refine wp_block ?_
  refine lp (α := Unit) (fun u => [(0, .slice (some ⟨b, off, none⟩) ns.length cap), (1, .int .i64 0), (2, .int .i64 ns.length), (7, .int .i64 1), (8, .int .i64 0)]) (fun u => [A]) (fun u => True) (fun u => 0) (()) ⟨rfl, rfl, rfl, rfl, rfl, True.intro⟩ (trivial) H ?_; intro u ρ w hI H K5 hK5
  refine sq ?_; intro K6 hK6; refine sq ?_; intro K7 hK7; refine wp_region_lit ?_; refine xmv rfl ?_; refine xlt rfl rfl ?_; refine wpList_nil ?_
  refine tn ?_; refine hK7 _ _ ?_; clear hK7 K7; refine ift rfl ?_; refine wp_skip ?_; refine tn ?_; refine hK6 _ _ ?_; clear hK6 K6; refine sq ?_; intro K8 hK8
  refine wp_block ?_; refine sq ?_; intro K9 hK9; refine wp_block ?_
  refine lp (α := Nat) (fun i => [(0, .slice (some ⟨b, off, none⟩) ns.length cap), (1, .int .i64 0), (2, .int .i64 ns.length), (7, .int .i64 i), (8, .int .i64 0)]) (fun i => [A]) (fun i => 1 ≤ i ∧ i ≤ ns.length) (fun i => ns.length - i) (1) ⟨rfl, rfl, rfl, rfl, rfl, True.intro⟩ ((by omega)) H ?_; intro i ρ w hI H K10 hK10
  refine sq ?_; intro K11 hK11; refine sq ?_; intro K12 hK12; refine drws (m := 16) 100000 rfl rfl H ?_; clear H; intro w H
  refine dt' 0 rfl (by kernel_rfl) H (ymv rfl) ?_; refine dt' 1 rfl (by kernel_rfl) H (ymv rfl) ?_; refine dt' 2 rfl (by kernel_rfl) H (ylt rfl rfl) ?_
  refine dt' 3 rfl (by kernel_rfl) H (ymv rfl) ?_
  refine gspH 20 rfl (fun k2 => ?_) (fun k2 => ?_)
  · have k2 : i < ns.length := by simpa using k2
    have hi1 : i - 1 < ns.length := by omega
    have hle := srt_le hs (Nat.sub_le i 1) k2
    refine dgy 4 rfl rfl rfl rfl (by kernel_rfl) H (fun w _ => (ymv rfl) w) ?_; refine dgy 5 rfl rfl rfl rfl (by kernel_rfl) H (fun w _ => (ymv rfl) w) ?_
    refine dgy 8 rfl rfl rfl rfl (by kernel_rfl) H (fun w _ => (ymv rfl) w) ?_; refine dgy 9 rfl rfl rfl rfl (by kernel_rfl) H (fun w _ => (ymv rfl) w) ?_
    refine dgy 10 rfl rfl rfl rfl (by kernel_rfl) H (fun w _ => (ysbi rfl rfl (wi64 (by omega))) w) ?_
    refine dgy 6 rfl rfl rfl rfl (by kernel_rfl) H (fun w _ => (yia (j := i) rfl rfl rfl k2) w) ?_
    refine dgy 7 rfl rfl rfl rfl (by kernel_rfl) H (zld 0 rfl rfl (uv_cell hC k2)) ?_
    refine dgy 11 rfl rfl rfl rfl (by kernel_rfl) H (fun w _ => (yia (j := i - 1) rfl rfl (by omega) hi1) w) ?_
    refine dgy 12 rfl rfl rfl rfl (by kernel_rfl) H (zld 0 rfl rfl (uv_cell hC hi1)) ?_
    refine do1 13 rfl (by kernel_rfl) ?_; intro K13 hK13; refine xgy rfl rfl rfl ?_
    refine xc [] H ((c_uless ns[i] ns[i - 1])) rfl rfl rfl rfl rfl ?_; rintro _ _ w ⟨rfl, rfl⟩ H; replace H := H.ap rfl
    have hnl : decide (ns[i] < ns[i - 1]) = false := by simpa using hle
    rw [hnl]
    refine wpList_nil ?_; refine tn ?_; refine hK13 _ _ (fun _ => H) ?_; clear hK13 K13; refine dgy 14 rfl rfl rfl rfl (by kernel_rfl) H (fun w _ => (yntf rfl) w) ?_
    refine dt' 15 rfl (by kernel_rfl) H (ypkt rfl rfl) ?_; refine dd (by kernel_rfl) ?_; refine tn ?_; refine hK12 _ _ ?_; clear hK12 K12; refine ift rfl ?_
    refine wp_skip ?_; refine tn ?_; refine hK11 _ _ ?_; clear hK11 K11; refine wp_block ?_; refine wp_region_lit ?_; refine xmv rfl ?_
    refine xadi rfl rfl (wi64 (by omega)) ?_
    refine xas rfl ?_; refine wpList_nil ?_; refine bn ?_
    refine tn ?_; refine hK10 _ _ (i + 1) ⟨rfl, rfl, rfl, rfl, rfl, True.intro⟩ ?_ H ?_
    · omega
    · omega
  · have k2 : i = ns.length := by have k3 : ¬ i < ns.length := (by simpa using k2); omega
    refine dgn 4 rfl rfl rfl rfl (by kernel_rfl) H ?_; refine dgn 5 rfl rfl rfl rfl (by kernel_rfl) H ?_; refine dgn 6 rfl rfl rfl rfl (by kernel_rfl) H ?_
    refine dgn 7 rfl rfl rfl rfl (by kernel_rfl) H ?_; refine dgn 8 rfl rfl rfl rfl (by kernel_rfl) H ?_; refine dgn 9 rfl rfl rfl rfl (by kernel_rfl) H ?_
    refine dgn 10 rfl rfl rfl rfl (by kernel_rfl) H ?_; refine dgn 11 rfl rfl rfl rfl (by kernel_rfl) H ?_; refine dgn 12 rfl rfl rfl rfl (by kernel_rfl) H ?_
    refine dgn 13 rfl rfl rfl rfl (by kernel_rfl) H ?_; refine dgn 14 rfl rfl rfl rfl (by kernel_rfl) H ?_; refine dt' 15 rfl (by kernel_rfl) H (ypkf rfl rfl) ?_
    refine dd (by kernel_rfl) ?_; refine tn ?_; refine hK12 _ _ ?_; clear hK12 K12; refine iff_ rfl ?_; refine wp_exit ?_; refine te ?_; clear hK11 K11
    refine te ?_; clear hK10 K10; refine be ?_; refine tn ?_; refine hK9 _ _ ?_; clear hK9 K9; refine sq ?_; intro K13 hK13; refine sq ?_; intro K14 hK14
    refine wp_region_lit ?_; refine xmv rfl ?_; refine xmv rfl ?_; refine xeq rfl rfl ?_; refine wpList_nil ?_; refine tn ?_; refine hK14 _ _ ?_; clear hK14 K14
    refine if_ rfl (fun k4 => ?_) (fun k4 => ?_)
    · refine sq ?_; intro K15 hK15; refine wp_region_lit ?_; refine xas rfl ?_; refine wpList_nil ?_; refine tn ?_; refine hK15 _ _ ?_; clear hK15 K15
      refine wp_ret ?_; refine tr ?_; clear hK13 K13; refine br ?_; refine tr ?_; clear hK8 K8; refine tr ?_; clear hK5 K5; refine br ?_; refine tr ?_; clear hK3 K3
      refine hQ _ _ _ ?_; refine r1 rfl rfl H ?_
      exact ⟨rfl, rfl⟩
    · exact absurd k4 (by simp; omega)
theorem c_updq0 (ao : Option Addr) (cap : Nat) (lim : Int) :
    Fn Tryz.prog 128 [.slice ao 0 cap, .int .i64 0, .int .i64 0, .int .i64 lim] [] (Ret fun v L => v = .tuple #[] ∧ L = []) := by
  refine Fn.intro Tryz.call128 Tryz.func128 rfl Tryz.ntmps128 rfl ?_; intro g w Q hQ H
  refine sq ?_; intro K1 hK1; refine wp_region_lit ?_; refine xas rfl ?_; refine wpList_nil ?_; refine tn ?_; refine hK1 _ _ ?_; clear hK1 K1
  refine sq ?_; intro K2 hK2; refine wp_region_lit ?_; refine xas rfl ?_; refine wpList_nil ?_; refine tn ?_; refine hK2 _ _ ?_; clear hK2 K2; refine wp_block ?_
  refine lp (α := Unit) (fun u => [(0, .slice ao 0 cap), (1, .int .i64 0), (2, .int .i64 0), (3, .int .i64 lim), (8, .bool true), (9, .bool true)]) (fun u => []) (fun u => True) (fun u => 0) (()) ⟨rfl, rfl, rfl, rfl, rfl, rfl, True.intro⟩ (trivial) H ?_; intro u ρ w hI H K3 hK3
  refine wp_block ?_; refine sq ?_; intro K4 hK4; refine wp_region_lit ?_; refine xmv rfl ?_; refine xmv rfl ?_
  refine xsbi rfl rfl (wi64 (by omega)) ?_
  refine xas rfl ?_; refine wpList_nil ?_; refine tn ?_; refine hK4 _ _ ?_; clear hK4 K4; refine sq ?_; intro K5 hK5; refine sq ?_; intro K6 hK6
  refine wp_region_lit ?_; refine xmv rfl ?_; refine xle rfl rfl ?_; refine wpList_nil ?_; refine tn ?_; refine hK6 _ _ ?_; clear hK6 K6
  refine if_ rfl (fun k1 => ?_) (fun k1 => ?_)
  · refine sq ?_; intro K7 hK7; refine wp_region_lit ?_; refine xmv rfl ?_; refine xmv rfl ?_; refine xmv rfl ?_
    refine xc [] H ((c_uins0 ao cap)) rfl rfl rfl rfl rfl ?_; rintro _ _ w ⟨rfl, rfl⟩ H; replace H := H.ap rfl
    refine wpList_nil ?_; refine tn ?_; refine hK7 _ _ ?_; clear hK7 K7; refine wp_ret ?_; refine tr ?_; clear hK5 K5; refine br ?_; refine tr ?_; clear hK3 K3
    refine br ?_
    refine hQ _ _ _ ?_; refine r0 rfl H ?_
    exact ⟨rfl, rfl⟩
  · exact absurd k1 (by decide)
theorem c_updq (A : Asn) (b off cap : Nat) (ns : List Nat) (lim : Int) (hlim : ns.length ≤ 12 ∨ lim ≠ 0) (hC : Cells A b off (ns.map uV)) (hs : ns.Pairwise (· ≤ ·)) (hn : ns.length ≤ 1099511627776) :
    Fn Tryz.prog 128 [.slice (some ⟨b, off, none⟩) ns.length cap, .int .i64 0, .int .i64 ns.length, .int .i64 lim] [A] (Ret fun v L => v = .tuple #[] ∧ L = [A]) := by
  refine Fn.intro Tryz.call128 Tryz.func128 rfl Tryz.ntmps128 rfl ?_; intro g w Q hQ H
  refine sq ?_; intro K1 hK1; refine wp_region_lit ?_; refine xas rfl ?_; refine wpList_nil ?_; refine tn ?_; refine hK1 _ _ ?_; clear hK1 K1
  refine sq ?_; intro K2 hK2; refine wp_region_lit ?_; refine xas rfl ?_; refine wpList_nil ?_; refine tn ?_; refine hK2 _ _ ?_; clear hK2 K2; refine wp_block ?_
  refine lp (α := Unit) (fun u => [(0, .slice (some ⟨b, off, none⟩) ns.length cap), (1, .int .i64 0), (2, .int .i64 ns.length), (3, .int .i64 lim), (8, .bool true), (9, .bool true)]) (fun u => [A]) (fun u => True) (fun u => 0) (()) ⟨rfl, rfl, rfl, rfl, rfl, rfl, True.intro⟩ (trivial) H ?_; intro u ρ w hI H K3 hK3
  refine wp_block ?_; refine sq ?_; intro K4 hK4; refine wp_region_lit ?_; refine xmv rfl ?_; refine xmv rfl ?_
  refine xsbi rfl rfl (wi64 (by omega)) ?_
  refine xas rfl ?_; refine wpList_nil ?_; refine tn ?_; refine hK4 _ _ ?_; clear hK4 K4; refine sq ?_; intro K5 hK5; refine sq ?_; intro K6 hK6
  refine wp_region_lit ?_; refine xmv rfl ?_; refine xle rfl rfl ?_; refine wpList_nil ?_; refine tn ?_; refine hK6 _ _ ?_; clear hK6 K6
  refine if_ rfl (fun k1 => ?_) (fun k1 => ?_)
  · refine sq ?_; intro K7 hK7; refine wp_region_lit ?_; refine xmv rfl ?_; refine xmv rfl ?_; refine xmv rfl ?_
    refine xc [0] H ((c_uins A b off cap ns hC hs hn)) rfl rfl rfl rfl rfl ?_; rintro _ _ w ⟨rfl, rfl⟩ H; replace H := H.ap rfl
    refine wpList_nil ?_; refine tn ?_; refine hK7 _ _ ?_; clear hK7 K7; refine wp_ret ?_; refine tr ?_; clear hK5 K5; refine br ?_; refine tr ?_; clear hK3 K3
    refine br ?_
    refine hQ _ _ _ ?_; refine r0 rfl H ?_
    exact ⟨rfl, rfl⟩
  · have k1 : 12 < ns.length := by have h1 := of_decide_eq_false k1; omega
    have hl0 : lim ≠ 0 := hlim.resolve_left (by omega)
    refine wp_skip ?_; refine tn ?_; refine hK5 _ _ ?_; clear hK5 K5; refine sq ?_; intro K7 hK7; refine sq ?_; intro K8 hK8; refine wp_region_lit ?_
    refine xmv rfl ?_; refine xeq rfl rfl ?_; refine wpList_nil ?_; refine tn ?_; refine hK8 _ _ ?_; clear hK8 K8
    refine if_ rfl (fun k2 => ?_) (fun k2 => ?_)
    · exact absurd k2 (by simpa using hl0)
    · refine wp_skip ?_; refine tn ?_; refine hK7 _ _ ?_; clear hK7 K7; refine sq ?_; intro K9 hK9; refine sq ?_; intro K10 hK10; refine wp_region_lit ?_
      refine xmv rfl ?_; refine xnt rfl ?_; refine wpList_nil ?_; refine tn ?_; refine hK10 _ _ ?_; clear hK10 K10; refine iff_ rfl ?_; refine wp_skip ?_
      refine tn ?_; refine hK9 _ _ ?_; clear hK9 K9; refine sq ?_; intro K11 hK11; refine wp_region_lit ?_; refine xmv rfl ?_; refine xmv rfl ?_; refine xmv rfl ?_
      refine xc [0] H ((c_upiv A b off cap ns hC hs k1 hn)) rfl rfl rfl rfl rfl ?_; rintro _ _ w ⟨p, hp, rfl, rfl⟩ H; replace H := H.ap rfl
      refine xmv rfl ?_; refine xex rfl rfl ?_; refine xex rfl rfl ?_; refine xas rfl ?_; refine xas rfl ?_; refine wpList_nil ?_
      refine tn ?_; refine hK11 _ _ ?_; clear hK11 K11; refine sq ?_; intro K12 hK12; refine sq ?_; intro K13 hK13; refine wp_region_lit ?_; refine xmv rfl ?_
      refine xeq rfl rfl ?_; refine wpList_nil ?_; refine tn ?_; refine hK13 _ _ ?_; clear hK13 K13; refine iff_ rfl ?_; refine wp_skip ?_
      refine tn ?_; refine hK12 _ _ ?_; clear hK12 K12; refine sq ?_; intro K14 hK14; refine sq ?_; intro K15 hK15; refine wp_region_lit ?_; refine xmv rfl ?_
      refine xmv rfl ?_; refine xgy rfl rfl rfl ?_; refine xmv rfl ?_; refine xpkt rfl rfl ?_; refine xmv rfl ?_; refine xgy rfl rfl rfl ?_; refine xmv rfl ?_
      refine xgy rfl rfl rfl ?_; refine xeq rfl rfl ?_; refine xpkt rfl rfl ?_; refine wpList_nil ?_; refine tn ?_; refine hK15 _ _ ?_; clear hK15 K15
      refine ift rfl ?_; refine sq ?_; intro K16 hK16; refine wp_region_lit ?_; refine xmv rfl ?_; refine xmv rfl ?_; refine xmv rfl ?_
      refine xc [0] H ((c_upart A b off cap ns hC hs k1 hn)) rfl rfl rfl rfl rfl ?_; rintro _ _ w ⟨rfl, rfl⟩ H; replace H := H.ap rfl
      refine wpList_nil ?_; refine tn ?_; refine hK16 _ _ ?_; clear hK16 K16; refine ift rfl ?_; refine wp_ret ?_; refine tr ?_; clear hK14 K14; refine br ?_
      refine tr ?_; clear hK3 K3; refine br ?_
      refine hQ _ _ _ ?_; refine r0 rfl H ?_
      exact ⟨rfl, rfl⟩
theorem len64_pos {x : Nat} (hx : 0 < x) : len64 x ≠ 0 := by
  unfold len64 len64a
  split
  · unfold len64c len64b; simp only; split <;> split <;> simp only <;> omega
  · rename_i h
    unfold len64c len64b
    simp only
    split
    · split <;> simp only <;> omega
    · rename_i h2
      split
      · simp only; omega
      · rename_i h3
        simp only at h3 ⊢
        have h4 : x < 256 := by omega
        have key : ∀ y : Fin 256, y.val = 0 ∨ (lt8 y.val).toNat ≠ 0 := by decide
        have := (key ⟨x, h4⟩).resolve_left (by simpa using (by omega : x ≠ 0))
        simp only at this; omega
theorem c_blen (x : Nat) (hx : x < 18446744073709551616) : Fn Tryz.prog 129 [.int .u64 x] [] (Ret fun v L => v = .int .i64 (len64 x : Nat) ∧ L = []) := by
  refine Fn.intro Tryz.call129 Tryz.func129 rfl Tryz.ntmps129 rfl ?_; intro g w Q hQ H
  refine sq ?_; intro K1 hK1; refine wp_region_lit ?_; refine xas rfl ?_; refine wpList_nil ?_; refine tn ?_; refine hK1 _ _ ?_; clear hK1 K1
  refine sq ?_; intro K2 hK2; refine iff_ rfl ?_; refine wp_skip ?_; refine tn ?_; refine hK2 _ _ ?_; clear hK2 K2; refine sq ?_; intro K3 hK3
  refine wp_region_lit ?_; refine xmv rfl ?_
  refine xc [] H ((c_len64 x hx)) rfl rfl rfl rfl rfl ?_; rintro _ _ w ⟨rfl, rfl⟩ H; replace H := H.ap rfl
  refine xas rfl ?_; refine wpList_nil ?_; refine tn ?_; refine hK3 _ _ ?_; clear hK3 K3; refine wp_ret ?_
  refine hQ _ _ _ ?_; refine r1 rfl rfl H ?_
  exact ⟨rfl, rfl⟩
theorem c_usort0 (ao : Option Addr) (cap : Nat) :
    Fn Tryz.prog 91 [.slice ao 0 cap] [] (Ret fun v L => v = .tuple #[] ∧ L = []) := by
  refine Fn.intro Tryz.call91 Tryz.func91 rfl Tryz.ntmps91 rfl ?_; intro g w Q hQ H
  refine sq ?_; intro K1 hK1; refine wp_region_lit ?_; refine xmv rfl ?_; refine xli rfl ?_; refine xas rfl ?_; refine wpList_nil ?_
  refine tn ?_; refine hK1 _ _ ?_; clear hK1 K1; refine wp_region_lit ?_; refine xmv rfl ?_; refine xmv rfl ?_; refine xmv rfl ?_
  refine xcvi rfl (wu64 (by omega)) ?_
  refine xc [] H ((c_blen 0 (by decide))) rfl rfl rfl rfl rfl ?_; rintro _ _ w ⟨rfl, rfl⟩ H; replace H := H.ap rfl
  refine xc [] H ((c_updq0 ao cap _)) rfl rfl rfl rfl rfl ?_; rintro _ _ w ⟨rfl, rfl⟩ H; replace H := H.ap rfl
  refine wpList_nil ?_
  refine hQ _ _ _ ?_; refine n0 rfl H ?_
  exact ⟨rfl, rfl⟩
theorem c_usort (A : Asn) (b off cap : Nat) (ns : List Nat) (hC : Cells A b off (ns.map uV)) (hs : ns.Pairwise (· ≤ ·)) (h0 : 0 < ns.length) (hn : ns.length ≤ 1099511627776) :
    Fn Tryz.prog 91 [.slice (some ⟨b, off, none⟩) ns.length cap] [A] (Ret fun v L => v = .tuple #[] ∧ L = [A]) := by
  refine Fn.intro Tryz.call91 Tryz.func91 rfl Tryz.ntmps91 rfl ?_; intro g w Q hQ H
  refine sq ?_; intro K1 hK1; refine wp_region_lit ?_; refine xmv rfl ?_; refine xli rfl ?_; refine xas rfl ?_; refine wpList_nil ?_
  refine tn ?_; refine hK1 _ _ ?_; clear hK1 K1; refine wp_region_lit ?_; refine xmv rfl ?_; refine xmv rfl ?_; refine xmv rfl ?_
  refine xcvi rfl (wu64 (by omega)) ?_
  refine xc [] H ((c_blen ns.length (by omega))) rfl rfl rfl rfl rfl ?_; rintro _ _ w ⟨rfl, rfl⟩ H; replace H := H.ap rfl
  refine xc [0] H ((c_updq A b off cap ns _ (.inr (by have := len64_pos h0; omega)) hC hs hn)) rfl rfl rfl rfl rfl ?_; rintro _ _ w ⟨rfl, rfl⟩ H; replace H := H.ap rfl
  refine wpList_nil ?_
  refine hQ _ _ _ ?_; refine n0 rfl H ?_
  exact ⟨rfl, rfl⟩
theorem c_ucomp0 (ao : Option Addr) (cap n : Nat) (hn : n < 2) :
    Fn Tryz.prog 92 [.slice ao n cap] [] (Ret fun v L => v = .slice ao n cap ∧ L = []) := by
  refine Fn.intro Tryz.call92 Tryz.func92 rfl Tryz.ntmps92 rfl ?_; intro g w Q hQ H
  refine sq ?_; intro K1 hK1; refine wp_region_lit ?_; refine xas rfl ?_; refine wpList_nil ?_; refine tn ?_; refine hK1 _ _ ?_; clear hK1 K1
  refine sq ?_; intro K2 hK2; refine sq ?_; intro K3 hK3; refine wp_region_lit ?_; refine xmv rfl ?_; refine xli rfl ?_; refine xlt rfl rfl ?_
  refine wpList_nil ?_; refine tn ?_; refine hK3 _ _ ?_; clear hK3 K3
  refine if_ rfl (fun h => ?_) (fun h => ?_)
  · refine sq ?_; intro K4 hK4; refine wp_region_lit ?_; refine xmv rfl ?_; refine xas rfl ?_; refine wpList_nil ?_; refine tn ?_; refine hK4 _ _ ?_; clear hK4 K4
    refine wp_ret ?_; refine tr ?_; clear hK2 K2
    refine hQ _ _ _ ?_; refine r1 rfl rfl H ?_
    exact ⟨rfl, rfl⟩
  · exact absurd h (by simp; omega)
theorem c_ucomp (A : Asn) (b off cap : Nat) (ns : List Nat) (hC : Cells A b off (ns.map uV)) (hs : ns.Pairwise (· < ·)) (hn : ns.length ≤ 1099511627776) :
    Fn Tryz.prog 92 [.slice (some ⟨b, off, none⟩) ns.length cap] [A] (Ret fun v L => v = .slice (some ⟨b, off, none⟩) ns.length cap ∧ L = [A]) := by
  refine Fn.intro Tryz.call92 Tryz.func92 rfl Tryz.ntmps92 rfl ?_; intro g w Q hQ H
  refine sq ?_; intro K1 hK1; refine wp_region_lit ?_; refine xas rfl ?_; refine wpList_nil ?_; refine tn ?_; refine hK1 _ _ ?_; clear hK1 K1
  refine sq ?_; intro K2 hK2; refine sq ?_; intro K3 hK3; refine wp_region_lit ?_; refine xmv rfl ?_; refine xli rfl ?_; refine xlt rfl rfl ?_
  refine wpList_nil ?_; refine tn ?_; refine hK3 _ _ ?_; clear hK3 K3
  refine if_ rfl (fun h => ?_) (fun h => ?_)
  · refine sq ?_; intro K4 hK4; refine wp_region_lit ?_; refine xmv rfl ?_; refine xas rfl ?_; refine wpList_nil ?_; refine tn ?_; refine hK4 _ _ ?_; clear hK4 K4
    refine wp_ret ?_; refine tr ?_; clear hK2 K2
    refine hQ _ _ _ ?_; refine r1 rfl rfl H ?_
    exact ⟨rfl, rfl⟩
  · refine wp_skip ?_; refine tn ?_; refine hK2 _ _ ?_; clear hK2 K2; refine sq ?_; intro K4 hK4; refine sq ?_; intro K5 hK5; refine wp_region_lit ?_
    refine xas rfl ?_; refine wpList_nil ?_; refine tn ?_; refine hK5 _ _ ?_; clear hK5 K5; refine wp_block ?_
    refine lp (α := Nat) (fun i => [(0, .slice (some ⟨b, off, none⟩) ns.length cap), (3, .int .i64 i)]) (fun i => [A]) (fun i => 1 ≤ i) (fun i => ns.length - i) (1) ⟨rfl, rfl, True.intro⟩ ((Nat.le_refl 1)) H ?_; intro i ρ w hI H K6 hK6
    refine sq ?_; intro K7 hK7; refine sq ?_; intro K8 hK8; refine wp_region_lit ?_; refine xmv rfl ?_; refine xmv rfl ?_; refine xli rfl ?_; refine xlt rfl rfl ?_
    refine wpList_nil ?_; refine tn ?_; refine hK8 _ _ ?_; clear hK8 K8
    refine if_ rfl (fun k1 => ?_) (fun k1 => ?_)
    · have k1 : i < ns.length := by simpa using k1
      have hi1 : i - 1 < ns.length := by omega
      have hlt : ns[i - 1] < ns[i] := List.pairwise_iff_getElem.1 hs (i - 1) i hi1 k1 (by omega)
      refine wp_skip ?_; refine tn ?_; refine hK7 _ _ ?_; clear hK7 K7; refine sq ?_; intro K9 hK9; refine wp_block ?_; refine sq ?_; intro K10 hK10
      refine drws (m := 10) 100000 rfl rfl H ?_; clear H; intro w H; refine dt' 0 rfl (by kernel_rfl) H (ymv rfl) ?_; refine dt' 1 rfl (by kernel_rfl) H (ymv rfl) ?_
      refine dt' 4 rfl (by kernel_rfl) H (ymv rfl) ?_; refine dt' 5 rfl (by kernel_rfl) H (ymv rfl) ?_
      refine dt' 6 rfl (by kernel_rfl) H (ysbi rfl rfl (wi64 (by omega))) ?_
      refine dt' 2 rfl (by kernel_rfl) H (yia (j := i) rfl rfl rfl k1) ?_
      refine dt 3 rfl (by kernel_rfl) H (zld 0 rfl rfl (uv_cell hC k1)) ?_
      refine dt' 7 rfl (by kernel_rfl) H (yia (j := i - 1) rfl rfl (by omega) hi1) ?_
      refine dt 8 rfl (by kernel_rfl) H (zld 0 rfl rfl (uv_cell hC hi1)) ?_
      refine dt' 9 rfl (by kernel_rfl) H (yeq rfl rfl) ?_; refine dd (by kernel_rfl) ?_; refine tn ?_; refine hK10 _ _ ?_; clear hK10 K10
      refine if_ rfl (fun k2 => ?_) (fun k2 => ?_)
      · exact absurd k2 (by simp; omega)
      · refine wp_skip ?_; refine bn ?_; refine tn ?_; refine hK9 _ _ ?_; clear hK9 K9; refine wp_region_lit ?_; refine xmv rfl ?_
        refine xadi rfl rfl (wi64 (by omega)) ?_
        refine xas rfl ?_; refine wpList_nil ?_
        refine tn ?_; refine hK6 _ _ (i + 1) ⟨rfl, rfl, True.intro⟩ ?_ H ?_
        · omega
        · omega
    · refine wp_exit ?_; refine te ?_; clear hK7 K7; refine te ?_; clear hK6 K6; refine be ?_; refine tn ?_; refine hK4 _ _ ?_; clear hK4 K4
      refine sq ?_; intro K9 hK9; refine wp_region_lit ?_; refine xmv rfl ?_; refine xas rfl ?_; refine wpList_nil ?_; refine tn ?_; refine hK9 _ _ ?_; clear hK9 K9
      refine wp_ret ?_
      refine hQ _ _ _ ?_; refine r1 rfl rfl H ?_
      exact ⟨rfl, rfl⟩
def segNums (names : List (List UInt8)) : List Nat := names.filterMap segNum
theorem c_numbers (A : Asn) (ao : Option Addr) (cap : Nat) (names : List (List UInt8)) (hr : Rd A ao (names.map strV)) (hl : ∀ s ∈ names, s.length ≤ 16777216) (hn : names.length ≤ 1099511627776) (hs : (segNums names).Pairwise (· < ·)) :
    Fn Tryz.prog 58 [.slice ao names.length cap] [A] (Ret fun v L => ∃ o c, v = .slice o (segNums names).length c ∧ L = [own o c 22 1 (segNums names).length ((segNums names).map uV), A]) := by
  refine Fn.intro Tryz.call58 Tryz.func58 rfl Tryz.ntmps58 rfl ?_; intro g w Q hQ H
  refine sq ?_; intro K1 hK1; refine wp_region_lit ?_; refine xas rfl ?_; refine wpList_nil ?_; refine tn ?_; refine hK1 _ _ ?_; clear hK1 K1
  refine sq ?_; intro K2 hK2; refine wp_region_lit ?_; refine xas rfl ?_; refine wpList_nil ?_; refine tn ?_; refine hK2 _ _ ?_; clear hK2 K2
  refine sq ?_; intro K3 hK3; refine sq ?_; intro K4 hK4; refine wp_region_lit ?_; refine xmv rfl ?_; refine xli rfl ?_; refine xmv rfl ?_; refine wpList_nil ?_
  refine tn ?_; refine hK4 _ _ ?_; clear hK4 K4; refine wp_block ?_
  replace H := H.ownNil 22 1
  refine lp3 (α := Nat) (β := List Nat) (γ := Option Addr × Nat) (fun i dn al => [(3, .slice al.1 dn.length al.2), (8, .slice ao names.length cap), (9, .int .i64 names.length), (10, .int .i64 i)]) (fun i dn al => [own al.1 al.2 22 1 dn.length (dn.map uV), A]) (fun i dn al => dn ++ segNums (names.drop i) = segNums names ∧ i ≤ names.length) (fun i dn al => names.length - i) (0) ([]) ((none, 0)) ⟨rfl, rfl, rfl, rfl, True.intro⟩ (⟨rfl, Nat.zero_le _⟩) H ?_; intro i dn al ρ w hI H K5 hK5
  obtain ⟨hd, hi⟩ := hI
  obtain ⟨o, c⟩ := al
  simp only at H ⊢
  refine sq ?_; intro K6 hK6; refine wp_region_lit ?_; refine xlt rfl rfl ?_; refine wpList_nil ?_; refine tn ?_; refine hK6 _ _ ?_; clear hK6 K6
  refine sq ?_; intro K7 hK7
  refine if_ rfl (fun k1 => ?_) (fun k1 => ?_)
  · have k1 : i < names.length := by simpa using k1
    have hg : (names.map strV)[i]? = some (strV names[i]) := by simp [k1]
    have hsl := hl _ (List.getElem_mem k1)
    rw [List.drop_eq_getElem_cons k1] at hd
    generalize names[i] = s at hg hsl hd
    have hcn := c_segnum s hsl
    have hbd : dn.length ≤ names.length := by
      have h1 := congrArg List.length hd
      have h2 : (segNums names).length ≤ names.length := List.length_filterMap_le _ _
      rw [List.length_append] at h1; omega
    refine wp_skip ?_; refine tn ?_; refine hK7 _ _ ?_; clear hK7 K7; refine sq ?_; intro K8 hK8; refine wp_block ?_; refine sq ?_; intro K9 hK9
    refine wp_region_lit ?_
    refine xi1r hr hg k1 rfl rfl rfl ?_; intro b12 o12 hx12
    refine xld 1 H rfl rfl hx12 ?_
    refine xas rfl ?_; refine wpList_nil ?_; refine tn ?_; refine hK9 _ _ ?_; clear hK9 K9; refine sq ?_; intro K10 hK10; refine wp_region_lit ?_; refine xmv rfl ?_
    rcases hsn : segNum s with _ | k
    · rw [hsn] at hcn
      have hsk : segNums (s :: names.drop (i + 1)) = segNums (names.drop (i + 1)) := by simp [segNums, hsn]
      refine xc [] H (hcn) rfl rfl rfl rfl rfl ?_; rintro _ _ w ⟨rfl, rfl⟩ H; replace H := H.ap rfl
      refine xmv rfl ?_; refine xex rfl rfl ?_; refine xex rfl rfl ?_; refine xas rfl ?_; refine xas rfl ?_; refine wpList_nil ?_
      refine tn ?_; refine hK10 _ _ ?_; clear hK10 K10; refine sq ?_; intro K11 hK11; refine wp_region_lit ?_; refine xmv rfl ?_; refine xeq rfl rfl ?_
      refine wpList_nil ?_; refine tn ?_; refine hK11 _ _ ?_; clear hK11 K11; refine iff_ rfl ?_; refine wp_skip ?_; refine bn ?_
      refine tn ?_; refine hK8 _ _ ?_; clear hK8 K8; refine wp_region_lit ?_
      refine xadi rfl rfl (wi64 (by omega)) ?_
      refine xmv rfl ?_; refine wpList_nil ?_
      refine tn ?_; refine hK5 _ _ (i + 1) (dn) ((o, c)) ⟨rfl, rfl, rfl, rfl, True.intro⟩ ?_ H ?_
      · exact ⟨by rw [← hd, hsk], k1⟩
      · omega
    · rw [hsn] at hcn
      have hsk : segNums (s :: names.drop (i + 1)) = k :: segNums (names.drop (i + 1)) := by simp [segNums, hsn]
      refine xc [] H (hcn) rfl rfl rfl rfl rfl ?_; rintro _ _ w ⟨rfl, rfl⟩ H; replace H := H.ap rfl
      refine xmv rfl ?_; refine xex rfl rfl ?_; refine xex rfl rfl ?_; refine xas rfl ?_; refine xas rfl ?_; refine wpList_nil ?_
      refine tn ?_; refine hK10 _ _ ?_; clear hK10 K10; refine sq ?_; intro K11 hK11; refine wp_region_lit ?_; refine xmv rfl ?_; refine xeq rfl rfl ?_
      refine wpList_nil ?_; refine tn ?_; refine hK11 _ _ ?_; clear hK11 K11; refine ift rfl ?_; refine wp_region_lit ?_; refine xmv rfl ?_; refine xmv rfl ?_
      refine xbs H rfl rfl rfl (by simp [Value.cells] <;> rfl) rfl rfl ?_; intro b23 w H
      refine xap 1 H rfl rfl rfl (src_at (news := [uV k]) 0 H rfl (St.ownRd H) rfl) (fun v hv => by simp at hv; subst hv; rfl) (by omega) (by simp only [maxLen]; omega) ?_; intro ao24 cap24 w H hn24
      refine xas rfl ?_; refine wpList_nil ?_; refine bn ?_; refine tn ?_; refine hK8 _ _ ?_; clear hK8 K8; refine wp_region_lit ?_
      refine xadi rfl rfl (wi64 (by omega)) ?_
      refine xmv rfl ?_; refine wpList_nil ?_
      replace H := (H.front' [1] rfl rfl).drop
      have hln : dn.length + 1 = (dn ++ [k]).length := by simp
      have hmp : dn.map uV ++ [uV k] = (dn ++ [k]).map uV := by simp
      rw [hln, hmp] at H
      rw [hln]
      refine tn ?_; refine hK5 _ _ (i + 1) (dn ++ [k]) ((ao24, cap24)) ⟨rfl, rfl, rfl, rfl, True.intro⟩ ?_ H ?_
      · exact ⟨by rw [← hd, hsk]; simp, k1⟩
      · omega
  · have k1 : i = names.length := by have : ¬ i < names.length := (by simpa using k1); omega
    rw [k1, List.drop_length] at hd
    have hd : dn = segNums names := by simpa [segNums] using hd
    rw [← hd] at hs
    rw [← hd] at hQ
    have hdl : dn.length ≤ 1099511627776 := by
      have h2 : (segNums names).length ≤ names.length := List.length_filterMap_le _ _
      rw [← hd] at h2; omega
    have hle : dn.Pairwise (· ≤ ·) := hs.imp (fun h => Nat.le_of_lt h)
    rcases Nat.eq_zero_or_pos dn.length with h0 | h0
    · have hnil := List.eq_nil_of_length_eq_zero h0
      rw [hnil] at H hQ
      rw [hnil]
      refine wp_exit ?_; refine te ?_; clear hK7 K7; refine te ?_; clear hK5 K5; refine be ?_; refine tn ?_; refine hK3 _ _ ?_; clear hK3 K3
      refine sq ?_; intro K8 hK8; refine wp_region_lit ?_; refine xmv rfl ?_
      refine xc [] H ((c_usort0 o c)) rfl rfl rfl rfl rfl ?_; rintro _ _ w ⟨rfl, rfl⟩ H; replace H := H.ap rfl
      refine wpList_nil ?_; refine tn ?_; refine hK8 _ _ ?_; clear hK8 K8; refine sq ?_; intro K9 hK9; refine wp_region_lit ?_; refine xmv rfl ?_
      refine xc [] H ((c_ucomp0 o c 0 (by decide))) rfl rfl rfl rfl rfl ?_; rintro _ _ w ⟨rfl, rfl⟩ H; replace H := H.ap rfl
      refine xas rfl ?_; refine wpList_nil ?_; refine tn ?_; refine hK9 _ _ ?_; clear hK9 K9; refine wp_ret ?_
      refine hQ _ _ _ ?_; refine r1 rfl rfl H ?_
      exact ⟨o, c, rfl, rfl⟩
    · have hcp := H.ownLen
      obtain ⟨b, off, ho⟩ := own_some H (by omega)
      rw [ho] at H
      rw [ho]
      have hC := own_cells (cap := c) (E := 22) (sz := 1) (n := dn.length) (cells := dn.map uV) (b := b) (off := off) rfl
      refine wp_exit ?_; refine te ?_; clear hK7 K7; refine te ?_; clear hK5 K5; refine be ?_; refine tn ?_; refine hK3 _ _ ?_; clear hK3 K3
      refine sq ?_; intro K8 hK8; refine wp_region_lit ?_; refine xmv rfl ?_
      refine xc [0] H ((c_usort _ b off c dn hC hle h0 hdl)) rfl rfl rfl rfl rfl ?_; rintro _ _ w ⟨rfl, rfl⟩ H; replace H := H.ap rfl
      refine wpList_nil ?_; refine tn ?_; refine hK8 _ _ ?_; clear hK8 K8; refine sq ?_; intro K9 hK9; refine wp_region_lit ?_; refine xmv rfl ?_
      refine xc [0] H ((c_ucomp _ b off c dn hC hs hdl)) rfl rfl rfl rfl rfl ?_; rintro _ _ w ⟨rfl, rfl⟩ H; replace H := H.ap rfl
      refine xas rfl ?_; refine wpList_nil ?_; refine tn ?_; refine hK9 _ _ ?_; clear hK9 K9; refine wp_ret ?_
      refine hQ _ _ _ ?_; refine r1 rfl rfl H ?_
      exact ⟨_, c, rfl, rfl⟩
end Go.Proofs.YtegllbmkkfnajaaGreatDoor
end
section
namespace Go.Proofs.YtegllbmkkfnajaaGreatDoor
open Go Go.Proofs
attribute [local irreducible] Go.wpList Go.Code.wp St Fn mk
set_option maxRecDepth 20000
def readAll (D : Dsk) : List (List UInt8) → List Nat → Except Int (List (List UInt8))
  | acc, [] => .ok acc
  | acc, n :: l => match readD D (segName n) with
    | .error e => .error e
    | .ok b => readAll D (acc ++ [b]) l
def ownF (o : Nat) (l : List Nat) : Nat := l.foldl (fun _ n => (n + 1) % 18446744073709551616) o
def nextW (recs : List Rec) (next : Nat) : Nat := if recs.length = 0 then max next 1 else (lastSeq recs + 1) % 18446744073709551616
def openW (D : Dsk) (next : Nat) : Except Int (Wal × List Rec) :=
  if D.down = true then .error 19 else match readAll D [] (segNums D.list) with
    | .error e => .error e
    | .ok bl => .ok (⟨ownF 1 (segNums D.list), nextW (segRecs (true, 0) bl) next, (nextW (segRecs (true, 0) bl) next + 18446744073709551615) % 18446744073709551616, []⟩, segRecs (true, 0) bl)
structure Dsk.fit (D : Dsk) : Prop where
  ok : D.ok
  names : ∀ f ∈ D.files, f.name.length ≤ 16777216
  rise : (segNums D.list).Pairwise (· < ·)
  all : (D.files.length + 1) * D.cap < 1099511627776
  few : D.files.length ≤ 1099511627776
def openWR (μ : Mem) (db : Nat) (D : Dsk) (r : Except Int (Wal × List Rec)) (v : Value) (L : List Asn) : Prop :=
  match r with
  | .error e => ∃ ν, μ ≤ ν ∧ v = .tuple #[.pointer none, .slice none 0 0, .int .i64 e] ∧ L = [imm ν, dskC db D]
  | .ok x => ∃ ν b ao cap, μ ≤ ν ∧ v = .tuple #[.pointer (some ⟨b, 0, none⟩), .slice ao x.2.length cap, .int .i64 0] ∧ L = [logC b db x.1, own ao cap recT 6 x.2.length (recsV x.2), imm ν, dskC db D]
theorem segTake_len : ∀ (bd : List (List UInt8)) (s : TkS), (segTake s bd).1.length ≤ bd.length
  | [], s => by simp [segTake]
  | b :: l, s => by
    simp only [segTake]
    split
    · simp
    · rename_i r h
      have := segTake_len l (takeS s b).2
      simp only [List.length_cons]; omega
theorem segRecs_len : ∀ (bl : List (List UInt8)) (s : TkS), (segRecs s bl).length ≤ (bl.map List.length).sum
  | [], s => by simp [segRecs]
  | b :: l, s => by
    have h1 := segTake_len ((boxesAt b 0).map Prod.fst) s
    have h2 := boxesF_len b (b.length + 1) 0 (Nat.zero_le _)
    have h3 := segRecs_len l (segTake s ((boxesAt b 0).map Prod.fst)).2
    simp only [segRecs, List.length_append, List.map_cons, List.sum_cons]
    rw [List.length_map] at h1
    unfold boxesAt at h1 h3
    unfold boxesAt
    omega
theorem readD_len {D : Dsk} {n b : List UInt8} (hD : D.ok) (h : readD D n = .ok b) : b.length ≤ D.cap := by
  unfold readD at h
  split at h
  · cases h
  · split at h
    · cases h
    · rename_i f hf
      cases h
      have h1 := sum_mem (fget_mem hf).1
      have h2 := hD.size
      unfold Dsk.size at h2
      omega
theorem sum_le {l : List (List UInt8)} {c : Nat} (h : ∀ b ∈ l, b.length ≤ c) : (l.map List.length).sum ≤ l.length * c := by
  induction l with
  | nil => simp
  | cons b l ih =>
    have h1 := h b (by simp)
    have h2 := ih (fun x hx => h x (by simp [hx]))
    simp only [List.map_cons, List.sum_cons, List.length_cons, Nat.succ_mul]; omega
theorem list_mem {D : Dsk} {s : List UInt8} (h : s ∈ D.list) : ∃ f ∈ D.files, f.name = s := by
  have := ((List.mergeSort_perm (D.files.map DFile.name) fun x y => decide (x ≤ y)).mem_iff).1 h
  obtain ⟨f, hf, rfl⟩ := List.mem_map.1 this
  exact ⟨f, hf, rfl⟩
theorem list_len (D : Dsk) : D.list.length = D.files.length := by unfold Dsk.list; rw [List.length_mergeSort, List.length_map]
theorem nums_len (D : Dsk) : (segNums D.list).length ≤ D.files.length := by
  have h2 : (segNums D.list).length ≤ D.list.length := List.length_filterMap_le _ _
  rw [list_len] at h2; exact h2
theorem usub1 (x : Nat) : IntKind.u64.wrap ((x : Int) - 1) = ((x + 18446744073709551615) % 18446744073709551616 : Nat) := by
  show ((x : Int) - 1) % 18446744073709551616 = _
  omega
theorem foldBe_lt : ∀ (bs : List UInt8) (n : Nat), n < 18446744073709551616 → bs.foldl beF n < 18446744073709551616
  | [], n, h => h
  | b :: l, n, _ => foldBe_lt l _ (beF_lt n b)
theorem nums_lt (D : Dsk) : ∀ n ∈ segNums D.list, n < 18446744073709551616 := by
  intro n hn
  obtain ⟨s, _, hs⟩ := List.mem_filterMap.1 hn
  unfold segNum at hs
  split at hs
  · cases hs
  · split at hs
    · cases hs; exact foldBe_lt _ _ (by decide)
    · cases hs
theorem c_wopen (μ : Mem) (db next : Nat) (D : Dsk) (hD : D.fit) (hnx : next < 18446744073709551616) :
    Fn Tryz.prog 36 [.pointer (some ⟨db, 0, none⟩), .int .u64 next] [imm μ, dskC db D] (Ret (openWR μ db D (openW D next))) := by
  have hok := hD.ok
  have hnl := nums_len D
  have hfew := hD.few
  have hlst := list_len D
  obtain ⟨O, hO⟩ : ∃ O, openW D next = O := ⟨_, rfl⟩
  rw [hO]
  unfold openW at hO
  refine Fn.intro Tryz.call36 Tryz.func36 rfl Tryz.ntmps36 rfl ?_; intro g w Q hQ H
  refine sq ?_; intro K1 hK1; refine wp_region_lit ?_; refine xas rfl ?_; refine xas rfl ?_; refine xas rfl ?_; refine wpList_nil ?_
  refine tn ?_; refine hK1 _ _ ?_; clear hK1 K1; refine sq ?_; intro K2 hK2; refine sq ?_; intro K3 hK3; refine wp_region_lit ?_; refine xmv rfl ?_
  refine xpns rfl rfl ?_; refine wpList_nil ?_; refine tn ?_; refine hK3 _ _ ?_; clear hK3 K3; refine iff_ rfl ?_; refine wp_skip ?_
  refine tn ?_; refine hK2 _ _ ?_; clear hK2 K2; refine sq ?_; intro K4 hK4; refine sq ?_; intro K5 hK5; refine wp_region_lit ?_; refine xmv rfl ?_
  refine xc [1] H ((c_ddown db D)) rfl rfl rfl rfl rfl ?_; rintro _ _ w ⟨rfl, rfl⟩ H; replace H := H.ap rfl
  refine wpList_nil ?_; refine tn ?_; refine hK5 _ _ ?_; clear hK5 K5
  refine if_ rfl (fun h1 => ?_) (fun h1 => ?_)
  · rw [if_pos h1] at hO
    subst hO
    refine sq ?_; intro K6 hK6; refine wp_region_lit ?_; refine xas rfl ?_; refine xas rfl ?_; refine xas rfl ?_; refine wpList_nil ?_
    refine tn ?_; refine hK6 _ _ ?_; clear hK6 K6; refine wp_ret ?_; refine tr ?_; clear hK4 K4
    replace H := H.keeps [1, 0] rfl; refine hQ _ _ _ ?_; refine r3 rfl rfl rfl rfl H ?_
    exact ⟨μ, Mem.rfl, rfl, rfl⟩
  · rw [if_neg (by rw [h1]; decide)] at hO
    refine wp_skip ?_; refine tn ?_; refine hK4 _ _ ?_; clear hK4 K4; refine sq ?_; intro K6 hK6; refine wp_region_lit ?_; refine xas rfl ?_; refine wpList_nil ?_
    refine tn ?_; refine hK6 _ _ ?_; clear hK6 K6; refine sq ?_; intro K7 hK7; refine wp_region_lit ?_; refine xas rfl ?_; refine wpList_nil ?_
    refine tn ?_; refine hK7 _ _ ?_; clear hK7 K7; refine sq ?_; intro K8 hK8; refine sq ?_; intro K9 hK9; refine wp_region_lit ?_; refine xmv rfl ?_
    refine xc [0] H ((c_dlist db D hfew)) rfl rfl rfl rfl rfl ?_; rintro _ _ w ⟨ao, cap, rfl, rfl⟩ H; replace H := H.ap rfl
    refine xc [0] H ((c_numbers _ ao cap D.list (H.ownRd) (fun s hs => by obtain ⟨f, hf, rfl⟩ := list_mem hs; exact hD.names f hf) (by omega) hD.rise)) rfl rfl rfl rfl rfl ?_; rintro _ _ w ⟨no, nc, rfl, rfl⟩ H; replace H := H.ap rfl
    refine xli rfl ?_; refine xmv rfl ?_; refine wpList_nil ?_; refine tn ?_; refine hK9 _ _ ?_; clear hK9 K9; refine wp_block ?_
    replace H := (H.front' [1] rfl rfl).drop
    obtain ⟨nums, hnums⟩ : ∃ q, segNums D.list = q := ⟨_, rfl⟩
    have hlt : ∀ n ∈ nums, n < 18446744073709551616 := by rw [← hnums]; exact nums_lt D
    rw [hnums] at H hO hnl
    rw [hnums]
    replace H := H.ownNil 59 1
    replace H : St g w [own none 0 59 1 0 [], imm μ, dskC db D, own no nc 22 1 nums.length (nums.map uV)] := H.front' [0, 2, 1] rfl rfl
    refine lp4 (α := Nat) (β := List (List UInt8)) (γ := Nat) (δ := Mem × Option Addr × Nat × List Value) (fun i bl ow al => [(0, .pointer (some ⟨db, 0, none⟩)), (1, .int .u64 next), (7, .slice al.2.1 bl.length al.2.2.1), (8, .int .u64 ow), (20, .slice no nums.length nc), (21, .int .i64 nums.length), (22, .int .i64 i)]) (fun i bl ow al => [own al.2.1 al.2.2.1 59 1 bl.length al.2.2.2, imm al.1, dskC db D, own no nc 22 1 nums.length (nums.map uV)]) (fun i bl ow al => readAll D [] nums = readAll D bl (nums.drop i) ∧ i ≤ nums.length ∧ ownF 1 nums = ownF ow (nums.drop i) ∧ μ ≤ al.1 ∧ BsL (imm al.1) al.2.2.2 bl ∧ bl.length = i ∧ (∀ b ∈ bl, b.length ≤ D.cap)) (fun i bl ow al => nums.length - i) (0) ([]) (1) ((μ, none, 0, [])) ⟨rfl, rfl, rfl, rfl, rfl, rfl, rfl, True.intro⟩ (⟨rfl, Nat.zero_le _, rfl, Mem.rfl, True.intro, rfl, by simp⟩) H ?_; intro i bl ow al ρ w hI H K10 hK10
    obtain ⟨hra, hi, how, hμ, hbl, hbi, hbc⟩ := hI
    obtain ⟨ν, lo, lc, vs⟩ := al
    simp only at H hμ hbl ⊢
    refine sq ?_; intro K11 hK11; refine wp_region_lit ?_; refine xlt rfl rfl ?_; refine wpList_nil ?_; refine tn ?_; refine hK11 _ _ ?_; clear hK11 K11
    refine sq ?_; intro K12 hK12
    refine if_ rfl (fun k1 => ?_) (fun k1 => ?_)
    · have k1 : i < nums.length := by simpa using k1
      have hn := hlt _ (List.getElem_mem k1)
      have hg : (nums.map uV)[i]? = some (.int .u64 nums[i]) := by simp [k1, uV]
      rw [List.drop_eq_getElem_cons k1] at hra how
      generalize nums[i] = n at hn hg hra how
      have hrd := c_dread db D (segName n) hok
      simp only [readAll] at hra
      refine wp_skip ?_; refine tn ?_; refine hK12 _ _ ?_; clear hK12 K12; refine sq ?_; intro K13 hK13; refine wp_block ?_; refine sq ?_; intro K14 hK14
      refine wp_region_lit ?_
      refine xi1r (H.front' [3] rfl rfl).ownRd hg k1 rfl rfl rfl ?_; intro b24 o24 hx24
      refine xld 3 H rfl rfl hx24 ?_
      refine xas rfl ?_; refine wpList_nil ?_; refine tn ?_; refine hK14 _ _ ?_; clear hK14 K14; refine sq ?_; intro K15 hK15; refine wp_region_lit ?_
      refine xmv rfl ?_; refine xmv rfl ?_
      refine xc [] H ((c_segname n hn)) rfl rfl rfl rfl rfl ?_; rintro _ _ w ⟨rfl, rfl⟩ H; replace H := H.ap rfl
      rcases hr : readD D (segName n) with e | b
      · rw [hr] at hrd hra
        have he := readD_err hr
        have hO : O = .error e := by rw [← hO, hra]
        subst hO
        refine xc [2] H (hrd) rfl rfl rfl rfl rfl ?_; rintro _ _ w ⟨rfl, rfl⟩ H; replace H := H.ap rfl
        refine xmv rfl ?_; refine xex rfl rfl ?_; refine xex rfl rfl ?_; refine xas rfl ?_; refine xas rfl ?_; refine wpList_nil ?_
        refine tn ?_; refine hK15 _ _ ?_; clear hK15 K15; refine sq ?_; intro K16 hK16; refine sq ?_; intro K17 hK17; refine wp_region_lit ?_; refine xmv rfl ?_
        refine xne rfl rfl ?_; refine wpList_nil ?_; refine tn ?_; refine hK17 _ _ ?_; clear hK17 K17
        refine if_ rfl (fun h2 => ?_) (fun h2 => ?_)
        · refine sq ?_; intro K18 hK18; refine wp_region_lit ?_; refine xmv rfl ?_; refine xas rfl ?_; refine xas rfl ?_; refine xas rfl ?_; refine wpList_nil ?_
          refine tn ?_; refine hK18 _ _ ?_; clear hK18 K18; refine wp_ret ?_; refine tr ?_; clear hK16 K16; refine br ?_; refine tr ?_; clear hK13 K13
          refine tr ?_; clear hK10 K10; refine br ?_; refine tr ?_; clear hK8 K8
          replace H := H.keeps [2, 0] rfl; refine hQ _ _ _ ?_; refine r3 rfl rfl rfl rfl H ?_
          exact ⟨ν, hμ, rfl, rfl⟩
        · exact absurd h2 (by simpa using he)
      · rw [hr] at hrd hra
        have hbl2 := readD_len hok hr
        refine xc [2] H (hrd) rfl rfl rfl rfl rfl ?_; rintro _ _ w ⟨bo, bc, rfl, rfl⟩ H; replace H := H.ap rfl
        refine xmv rfl ?_; refine xex rfl rfl ?_; refine xex rfl rfl ?_; refine xas rfl ?_; refine xas rfl ?_; refine wpList_nil ?_
        refine tn ?_; refine hK15 _ _ ?_; clear hK15 K15; refine sq ?_; intro K16 hK16; refine sq ?_; intro K17 hK17; refine wp_region_lit ?_; refine xmv rfl ?_
        refine xne rfl rfl ?_; refine wpList_nil ?_; refine tn ?_; refine hK17 _ _ ?_; clear hK17 K17; refine iff_ rfl ?_; refine wp_skip ?_
        refine tn ?_; refine hK16 _ _ ?_; clear hK16 K16; refine sq ?_; intro K18 hK18; refine wp_region_lit ?_; refine xmv rfl ?_; refine xmv rfl ?_
        refine xbs H rfl rfl rfl (by simp [Value.cells] <;> rfl) rfl rfl ?_; intro b38 w H
        have hbo := (H.front' [1] rfl rfl).ownLen
        obtain ⟨ξ, hξ, hrdb, H⟩ := (H.front' [1, 3] rfl rfl).freezeOwn
        replace H := H.front' [1] rfl rfl
        have hbi2 : bl.length ≤ 1099511627776 := by omega
        refine xap 3 H rfl rfl rfl (src_at (news := [.slice bo b.length bc]) 0 H rfl (St.ownRd H) rfl) (fun v hv => by simp at hv; subst hv; rfl) (by omega) (by simp only [maxLen]; omega) ?_; intro ao39 cap39 w H hn39
        refine xas rfl ?_; refine wpList_nil ?_; refine tn ?_; refine hK18 _ _ ?_; clear hK18 K18; refine wp_region_lit ?_; refine xmv rfl ?_
        refine xadm_u64 (b := 1) rfl rfl ?_
        refine xas rfl ?_; refine wpList_nil ?_; refine bn ?_; refine tn ?_; refine hK13 _ _ ?_; clear hK13 K13; refine wp_region_lit ?_
        refine xadi rfl rfl (wi64 (by omega)) ?_
        refine xmv rfl ?_; refine wpList_nil ?_
        replace H := (H.front' [1] rfl rfl).drop
        have hln : bl.length + 1 = (bl ++ [b]).length := by simp
        rw [hln] at H
        rw [hln]
        refine tn ?_; refine hK10 _ _ (i + 1) (bl ++ [b]) ((n + 1) % 18446744073709551616) ((ξ, ao39, cap39, vs ++ [.slice bo b.length bc])) ⟨rfl, rfl, rfl, rfl, rfl, rfl, rfl, True.intro⟩ ?_ H ?_
        · refine ⟨hra, k1, how, hμ.trans hξ, Fa2.app (hbl.sees hξ.sees) ⟨⟨_, _, rfl, hrdb, hbo.2⟩, True.intro⟩, by simp; omega, ?_⟩
          intro x hx
          rcases List.mem_append.1 hx with hx | hx
          · exact hbc x hx
          · rw [List.mem_singleton.1 hx]; exact hbl2
        · omega
    · have k1 : i = nums.length := by have : ¬ i < nums.length := (by simpa using k1); omega
      rw [k1, List.drop_length] at hra how
      simp only [readAll] at hra
      rw [hra] at hO
      simp only at hO
      have hlo := hD.all
      have hsl := segRecs_len bl (true, 0)
      have hsm := sum_le hbc
      have hle : bl.length * D.cap ≤ (D.files.length + 1) * D.cap := Nat.mul_le_mul_right _ (by omega)
      obtain ⟨ξ0, hξ0, hrd0, H⟩ := H.freezeOwn
      refine wp_exit ?_; refine te ?_; clear hK12 K12; refine te ?_; clear hK10 K10; refine be ?_; refine tn ?_; refine hK8 _ _ ?_; clear hK8 K8
      refine sq ?_; intro K13 hK13; refine wp_region_lit ?_; refine xmv rfl ?_
      refine xc [0] H ((c_records ξ0 lo lc vs bl hrd0 (hbl.sees hξ0.sees) (by omega) (fun b hb => by have := hbc b hb; have := hok.cap; omega) (by omega))) rfl rfl rfl rfl rfl ?_; rintro _ _ w ⟨ξ, ro, rc, hξ, rfl, rfl⟩ H; replace H := H.ap rfl
      have hown : ownF 1 nums = ow := how
      generalize segRecs (true, 0) bl = recs at H hO hsl ⊢
      have hmx : (if (1 : Int) > (next : Int) then (1 : Int) else (next : Int)) = ((max next 1 : Nat) : Int) := by split <;> omega
      refine xas rfl ?_; refine wpList_nil ?_; refine tn ?_; refine hK13 _ _ ?_; clear hK13 K13; refine sq ?_; intro K14 hK14; refine wp_region_lit ?_
      refine xmv rfl ?_; refine xmx rfl rfl ?_; refine xas rfl ?_; refine wpList_nil ?_; refine tn ?_; refine hK14 _ _ ?_; clear hK14 K14; refine sq ?_; intro K15 hK15
      refine sq ?_; intro K16 hK16; refine wp_region_lit ?_; refine xmv rfl ?_; refine xli rfl ?_; refine xgt rfl rfl ?_; refine wpList_nil ?_
      refine tn ?_; refine hK16 _ _ ?_; clear hK16 K16
      refine if_ rfl (fun h2 => ?_) (fun h2 => ?_)
      · have h2 : 0 < recs.length := by simpa using h2
        have hg : recs[recs.length - 1]? = some (recs[recs.length - 1]'(by omega)) := List.getElem?_eq_getElem (by omega)
        have hls : lastSeq recs = (recs[recs.length - 1]'(by omega)).seq := by unfold lastSeq; rw [List.getLast?_eq_getElem?, hg]
        have hcp := H.ownLen
        obtain ⟨wb, woff, hro⟩ := own_some H (by omega)
        rw [hro] at H
        rw [hro]
        have hcell : (own (some ⟨wb, woff, none⟩) rc recT 6 recs.length (recsV recs)).cell ⟨wb, woff + (recs.length - 1) * 6 + 0, none⟩ (.int .u64 (lastSeq recs)) :=
          own_get rfl rfl (by rw [hls]; exact recsV_seq hg)
        refine wp_region_lit ?_; refine xmv rfl ?_; refine xmv rfl ?_; refine xli rfl ?_
        refine xsbi rfl rfl (wi64 (by omega)) ?_
        refine xia (j := recs.length - 1) rfl rfl (by omega) (by omega) ?_
        refine xfa rfl ?_
        refine xld 0 H rfl rfl hcell ?_
        refine xadm_u64 (b := 1) rfl rfl ?_
        refine xas rfl ?_; refine wpList_nil ?_; refine tn ?_; refine hK15 _ _ ?_; clear hK15 K15; refine sq ?_; intro K17 hK17; refine wp_region_lit ?_
        refine xmv rfl ?_; refine xmv rfl ?_; refine xmv rfl ?_; refine xmv rfl ?_
        refine xsb rfl rfl ?_
        refine xbu rfl ?_; refine xbx H rfl rfl ?_; intro b64 w H; refine xmv rfl ?_; refine xas rfl ?_; refine xas rfl ?_; refine xas rfl ?_; refine wpList_nil ?_
        refine tn ?_; refine hK17 _ _ ?_; clear hK17 K17; refine wp_ret ?_
        rw [usub1] at H
        rw [hown] at hO
        have hnw : nextW recs next = (lastSeq recs + 1) % 18446744073709551616 := by unfold nextW; rw [if_neg (by omega)]
        rw [← hnw] at H ⊢
        replace H := H.ownNil recT 6
        replace H := St.tolog (W := ⟨ow, nextW recs next, (nextW recs next + 18446744073709551615) % 18446744073709551616, []⟩) (H.front' [1, 0] rfl rfl)
        replace H := H.keeps [0, 0, 0, 0] rfl; refine hQ _ _ _ ?_; refine r3 rfl rfl rfl rfl H ?_
        rw [← hO]
        exact ⟨ξ, b64, _, rc, (hμ.trans hξ0).trans hξ, rfl, rfl⟩
      · have h2 : recs.length = 0 := by have h3 := of_decide_eq_false h2; omega
        refine wp_skip ?_; refine tn ?_; refine hK15 _ _ ?_; clear hK15 K15; refine sq ?_; intro K17 hK17; refine wp_region_lit ?_; refine xmv rfl ?_; refine xmv rfl ?_
        refine xmv rfl ?_; refine xmv rfl ?_
        refine xsbi rfl rfl (wu64 (by omega)) ?_
        refine xbu rfl ?_; refine xbx H rfl rfl ?_; intro b64 w H; refine xmv rfl ?_; refine xas rfl ?_; refine xas rfl ?_; refine xas rfl ?_; refine wpList_nil ?_
        refine tn ?_; refine hK17 _ _ ?_; clear hK17 K17; refine wp_ret ?_
        simp only [hmx] at H ⊢
        have hsb : ((max next 1 : Nat) : Int) - 1 = (((max next 1) + 18446744073709551615) % 18446744073709551616 : Nat) := by omega
        rw [hsb] at H
        rw [hown] at hO
        have hnw : nextW recs next = max next 1 := by unfold nextW; rw [if_pos h2]
        rw [← hnw] at H ⊢
        replace H := H.ownNil recT 6
        replace H := St.tolog (W := ⟨ow, nextW recs next, (nextW recs next + 18446744073709551615) % 18446744073709551616, []⟩) (H.front' [1, 0] rfl rfl)
        replace H := H.keeps [0, 0, 0, 0] rfl; refine hQ _ _ _ ?_; refine r3 rfl rfl rfl rfl H ?_
        rw [← hO]
        exact ⟨ξ, b64, ro, rc, (hμ.trans hξ0).trans hξ, rfl, rfl⟩
end Go.Proofs.YtegllbmkkfnajaaGreatDoor
end
section
namespace Go.Proofs.YtegllbmkkfnajaaGreatDoor
open Go Go.Proofs
attribute [local irreducible] Go.wpList Go.Code.wp St Fn mk
set_option maxRecDepth 20000
abbrev vaultT : Nat := 54
def vltV (db : Nat) (lp : Option Nat) (l : Ledg) (ao : Option Addr) (cap : Nat) : List Value := .pointer (some ⟨db, 0, none⟩) :: .pointer (lp.map fun b => ⟨b, 0, none⟩) :: ledV l ao cap
def vltC (μ : Mem) (v db : Nat) (lp : Option Nat) (l : Ledg) : Asn :=
  exv (fun x : Mem × List AcctP × Option Addr × Nat => μ ≤ x.1 ∧ LedR (imm x.1) l x.2.1 x.2.2.1 x.2.2.2) fun x => [imm x.1, blk v (vltV db lp l x.2.2.1 x.2.2.2) vaultT]
def immC (μ : Mem) : Asn := exv (fun x : Mem => μ ≤ x) fun x => [imm x]
section
variable {g : Gh} {w : World} {L : List Asn}
theorem St.unvlt {μ : Mem} {v db : Nat} {lp : Option Nat} {l : Ledg} (H : St g w (vltC μ v db lp l :: L)) : ∃ ν ps ao cap, μ ≤ ν ∧ LedR (imm ν) l ps ao cap ∧ St g w (imm ν :: blk v (vltV db lp l ao cap) vaultT :: L) := by
  obtain ⟨⟨ν, ps, ao, cap⟩, ⟨h1, h2⟩, H⟩ := H.unexv
  exact ⟨ν, ps, ao, cap, h1, h2, H⟩
theorem St.tovlt {μ ν : Mem} {v db : Nat} {lp : Option Nat} {l : Ledg} {ps : List AcctP} {ao : Option Addr} {cap : Nat} (hμ : μ ≤ ν) (hL : LedR (imm ν) l ps ao cap) (H : St g w (imm ν :: blk v (vltV db lp l ao cap) vaultT :: L)) : St g w (vltC μ v db lp l :: L) :=
  St.toexv (ν, ps, ao, cap) ⟨hμ, hL⟩ H
theorem St.unimm {μ : Mem} (H : St g w (immC μ :: L)) : ∃ ν, μ ≤ ν ∧ St g w (imm ν :: L) := by
  obtain ⟨ν, h1, H⟩ := H.unexv
  exact ⟨ν, h1, H⟩
theorem St.toimmC {μ ν : Mem} (hμ : μ ≤ ν) (H : St g w (imm ν :: L)) : St g w (immC μ :: L) := St.toexv ν hμ H
theorem St.vltimm {μ : Mem} {v db : Nat} {lp : Option Nat} {l : Ledg} (H : St g w (vltC μ v db lp l :: L)) : St g w (immC μ :: L) := by
  obtain ⟨ν, ps, ao, cap, h1, h2, H⟩ := H.unvlt
  exact St.toimmC h1 ((H.front' [1] rfl rfl).drop)
end
def readR (S : List Asn) (r : Except Int (List UInt8)) (v : Value) (L : List Asn) : Prop :=
  (r = .error 8 ∧ v = .tuple #[.slice none 0 0, .bool false] ∧ L = S) ∨ ∃ bs ao cap, r = .ok bs ∧ v = .tuple #[.slice ao bs.length cap, .bool true] ∧ L = own ao cap 5 1 bs.length (bv bs) :: S
theorem c_vread (μ : Mem) (v db : Nat) (lp : Option Nat) (l : Ledg) (D : Dsk) (n : List UInt8) (hD : D.ok) :
    Fn Tryz.prog 55 [.pointer (some ⟨v, 0, none⟩), .string (str n)] [vltC μ v db lp l, dskC db D]
      (PRet faultV (readR [vltC μ v db lp l, dskC db D] (readD D n)) (fun k L => readD D n = .error k ∧ k ≠ 8 ∧ L = [vltC μ v db lp l, dskC db D])) := by
  have hrd := c_dread db D n hD
  refine Fn.intro Tryz.call55 Tryz.func55 rfl Tryz.ntmps55 rfl ?_; intro g w Q hQ H
  obtain ⟨ν, ps, ao, cap, hμ, hL, H⟩ := H.unvlt
  refine sq ?_; intro K1 hK1; refine wp_region_lit ?_; refine xas rfl ?_; refine xas rfl ?_; refine wpList_nil ?_; refine tn ?_; refine hK1 _ _ ?_; clear hK1 K1
  refine sq ?_; intro K2 hK2; refine wp_region_lit ?_; refine xmv rfl ?_
  refine xnc rfl ?_
  refine xfa rfl ?_
  refine xldb 1 H rfl rfl rfl ?_
  refine xmv rfl ?_
  rcases hr : readD D n with e | bs
  · rw [hr] at hrd
    have he := readD_err hr
    refine xc [2] H (hrd) rfl rfl rfl rfl rfl ?_; rintro _ _ w ⟨rfl, rfl⟩ H; replace H := H.ap rfl
    replace H := St.tovlt hμ hL (H.front' [1, 1] rfl rfl)
    refine xmv rfl ?_; refine xex rfl rfl ?_; refine xex rfl rfl ?_; refine xas rfl ?_; refine xas rfl ?_; refine wpList_nil ?_
    refine tn ?_; refine hK2 _ _ ?_; clear hK2 K2; refine sq ?_; intro K3 hK3; refine sq ?_; intro K4 hK4; refine wp_region_lit ?_; refine xmv rfl ?_
    refine xeq rfl rfl ?_; refine wpList_nil ?_; refine tn ?_; refine hK4 _ _ ?_; clear hK4 K4
    refine if_ rfl (fun h1 => ?_) (fun h1 => ?_)
    · have h1 : e = 8 := by simpa using h1
      subst h1
      refine sq ?_; intro K5 hK5; refine wp_region_lit ?_; refine xas rfl ?_; refine xas rfl ?_; refine wpList_nil ?_; refine tn ?_; refine hK5 _ _ ?_; clear hK5 K5
      refine wp_ret ?_; refine tr ?_; clear hK3 K3
      refine hQ _ _ _ (bpr ?_); refine r2 rfl rfl rfl H ?_
      exact .inl ⟨hr, rfl, rfl⟩
    · have h1 : e ≠ 8 := by simpa using h1
      refine wp_skip ?_; refine tn ?_; refine hK3 _ _ ?_; clear hK3 K3; refine sq ?_; intro K5 hK5; refine wp_region_lit ?_; refine xmv rfl ?_
      refine xcpr [] H ((c_must e)) rfl rfl rfl rfl rfl ?_ ?_
      · rintro _ _ w ⟨h0, rfl, rfl⟩ H; replace H := H.ap rfl; skip
        exact absurd h0 he
      · rintro k _ w ⟨rfl, h0, rfl⟩ H; replace H := H.ap rfl; refine tp ?_; clear hK5 K5; skip
        refine hQ _ _ _ (bpp H ?_)
        exact ⟨hr, h1, rfl⟩
  · rw [hr] at hrd
    refine xc [2] H (hrd) rfl rfl rfl rfl rfl ?_; rintro _ _ w ⟨bo, bc, rfl, rfl⟩ H; replace H := H.ap rfl
    refine xmv rfl ?_; refine xex rfl rfl ?_; refine xex rfl rfl ?_; refine xas rfl ?_; refine xas rfl ?_; refine wpList_nil ?_
    refine tn ?_; refine hK2 _ _ ?_; clear hK2 K2; refine sq ?_; intro K3 hK3; refine sq ?_; intro K4 hK4; refine wp_region_lit ?_; refine xmv rfl ?_
    refine xeq rfl rfl ?_; refine wpList_nil ?_; refine tn ?_; refine hK4 _ _ ?_; clear hK4 K4; refine iff_ rfl ?_; refine wp_skip ?_
    refine tn ?_; refine hK3 _ _ ?_; clear hK3 K3; refine sq ?_; intro K5 hK5; refine wp_region_lit ?_; refine xmv rfl ?_
    refine xcpr [] H ((c_must 0)) rfl rfl rfl rfl rfl ?_ ?_
    · rintro _ _ w ⟨h0, rfl, rfl⟩ H; replace H := H.ap rfl; refine wpList_nil ?_; refine tn ?_; refine hK5 _ _ ?_; clear hK5 K5; refine sq ?_; intro K6 hK6
      refine wp_region_lit ?_; refine xmv rfl ?_; refine xas rfl ?_; refine xas rfl ?_; refine wpList_nil ?_; refine tn ?_; refine hK6 _ _ ?_; clear hK6 K6
      refine wp_ret ?_
      replace H := St.tovlt hμ hL (H.front' [2, 2] rfl rfl)
      replace H := H.keeps [1, 0, 0] rfl; refine hQ _ _ _ (bpr ?_); refine r2 rfl rfl rfl H ?_
      exact .inr ⟨bs, bo, bc, hr, rfl, rfl⟩
    · rintro k _ w ⟨rfl, h0, rfl⟩ H; replace H := H.ap rfl; refine tp ?_; clear hK5 K5; skip
      exact absurd rfl h0
def snapNew : List UInt8 := [115, 110, 97, 112, 45, 110, 101, 119]
def snapN : List UInt8 := [115, 110, 97, 112]
def clearV (D : Dsk) : Int × Dsk := match readD D snapNew with
  | .error e => if e = 8 then (0, D) else (e, D)
  | .ok _ => removeD D snapNew
theorem c_vclear (μ : Mem) (v db : Nat) (lp : Option Nat) (l : Ledg) (D : Dsk) (hD : D.ok) :
    Fn Tryz.prog 34 [.pointer (some ⟨v, 0, none⟩)] [vltC μ v db lp l, dskC db D]
      (PRet faultV (fun x L => (clearV D).1 = 0 ∧ x = .tuple #[] ∧ L = [vltC μ v db lp l, dskC db (clearV D).2]) (fun k L => k = (clearV D).1 ∧ k ≠ 0 ∧ L = [vltC μ v db lp l, dskC db (clearV D).2])) := by
  have hrd := c_vread μ v db lp l D snapNew hD
  have hrm := c_dremove db D snapNew hD
  obtain ⟨C, hC⟩ : ∃ C, clearV D = C := ⟨_, rfl⟩
  rw [hC]
  unfold clearV at hC
  refine Fn.intro Tryz.call34 Tryz.func34 rfl Tryz.ntmps34 rfl ?_; intro g w Q hQ H
  refine sq ?_; intro K1 hK1; refine wp_region_lit ?_; refine xmv rfl ?_
  refine xcpr [0, 0] H (hrd) rfl rfl rfl rfl rfl ?_ ?_
  · rintro _ _ w hv H; skip
    rcases hv with ⟨h0, rfl, rfl⟩ | ⟨bs, bo, bc, h0, rfl, rfl⟩ <;> replace H := H.ap rfl
    · rw [h0] at hC
      subst hC
      refine xmv rfl ?_; refine xex rfl rfl ?_; refine xex rfl rfl ?_; refine xas rfl ?_; refine xas rfl ?_; refine wpList_nil ?_
      refine tn ?_; refine hK1 _ _ ?_; clear hK1 K1; refine sq ?_; intro K2 hK2; refine wp_region_lit ?_; refine xmv rfl ?_; refine wpList_nil ?_
      refine tn ?_; refine hK2 _ _ ?_; clear hK2 K2; refine iff_ rfl ?_; refine wp_skip ?_
      refine hQ _ _ _ (bpr ?_); refine n0 rfl H ?_
      exact ⟨rfl, rfl, rfl⟩
    · rw [h0] at hC
      simp only at hC
      rw [hC] at hrm
      replace H := H.drop
      obtain ⟨ν, ps, ao, cap, hμ, hL, H⟩ := H.unvlt
      refine xmv rfl ?_; refine xex rfl rfl ?_; refine xex rfl rfl ?_; refine xas rfl ?_; refine xas rfl ?_; refine wpList_nil ?_
      refine tn ?_; refine hK1 _ _ ?_; clear hK1 K1; refine sq ?_; intro K2 hK2; refine wp_region_lit ?_; refine xmv rfl ?_; refine wpList_nil ?_
      refine tn ?_; refine hK2 _ _ ?_; clear hK2 K2; refine ift rfl ?_; refine wp_region_lit ?_; refine xmv rfl ?_
      refine xnc rfl ?_
      refine xfa rfl ?_
      refine xldb 1 H rfl rfl rfl ?_
      refine xc [2] H (hrm) rfl rfl rfl rfl rfl ?_; rintro _ _ w ⟨rfl, rfl⟩ H; replace H := H.ap rfl
      replace H := St.tovlt hμ hL (H.front' [1, 1] rfl rfl)
      refine xcpr [] H ((c_must C.1)) rfl rfl rfl rfl rfl ?_ ?_
      · rintro _ _ w ⟨h1, rfl, rfl⟩ H; replace H := H.ap rfl; refine wpList_nil ?_
        refine hQ _ _ _ (bpr ?_); refine n0 rfl H ?_
        exact ⟨h1, rfl, rfl⟩
      · rintro k _ w ⟨rfl, h1, rfl⟩ H; replace H := H.ap rfl; skip; skip
        refine hQ _ _ _ (bpp H ?_)
        exact ⟨rfl, h1, rfl⟩
  · rintro k _ w ⟨h0, h8, rfl⟩ H; replace H := H.ap rfl; refine tp ?_; clear hK1 K1; skip
    refine hQ _ _ _ (bpp H ?_)
    rw [h0] at hC
    simp only [if_neg h8] at hC
    subst hC
    exact ⟨rfl, readD_err h0, rfl⟩
theorem led0R (A : Asn) : LedR A ⟨0, []⟩ [] none 0 := ⟨rfl, rfl, fun _ h => absurd h (by simp), Nat.le_refl _, by simp, by simp⟩
theorem snapDec_err {b : List UInt8} {e : Int} (h : snapDec b = .error e) : e ≠ 0 := by
  unfold snapDec at h
  split at h
  · cases h; decide
  · split at h
    · cases h; decide
    · split at h
      · cases h; decide
      · cases h
def snapV (D : Dsk) : Except Int Ledg := match readD D snapN with
  | .error e => if e = 8 then .ok ⟨0, []⟩ else .error e
  | .ok b => snapDec b
theorem c_vsnap (μ : Mem) (hT : Tab (imm μ)) (v db : Nat) (lp : Option Nat) (l : Ledg) (D : Dsk) (hD : D.ok) :
    Fn Tryz.prog 35 [.pointer (some ⟨v, 0, none⟩)] [vltC μ v db lp l, dskC db D]
      (PRet faultV (fun x L => ∃ l0 ν ps ao cap, μ ≤ ν ∧ LedR (imm ν) l0 ps ao cap ∧ snapV D = .ok l0 ∧ x = .agg (ledV l0 ao cap).toArray ∧ L = [vltC ν v db lp l, dskC db D]) (fun k L => snapV D = .error k ∧ k ≠ 0 ∧ L = [vltC μ v db lp l, dskC db D])) := by
  have hrd := c_vread μ v db lp l D snapN hD
  have hcp := hD.cap
  obtain ⟨C, hC⟩ : ∃ C, snapV D = C := ⟨_, rfl⟩
  rw [hC]
  unfold snapV at hC
  refine Fn.intro Tryz.call35 Tryz.func35 rfl Tryz.ntmps35 rfl ?_; intro g w Q hQ H
  refine sq ?_; intro K1 hK1; refine wp_region_lit ?_; refine xal H ?_; intro b2 w H; refine wpList_nil ?_; refine tn ?_; refine hK1 _ _ ?_; clear hK1 K1
  refine sq ?_; intro K2 hK2; refine wp_region_lit ?_; refine xmv rfl ?_
  refine xcpr [1, 1] H (hrd) rfl rfl rfl rfl rfl ?_ ?_
  · rintro _ _ w hv H; skip
    rcases hv with ⟨h0, rfl, rfl⟩ | ⟨bs, bo, bc, h0, rfl, rfl⟩ <;> replace H := H.ap rfl
    · rw [h0] at hC
      subst hC
      refine xmv rfl ?_; refine xex rfl rfl ?_; refine xex rfl rfl ?_; refine xas rfl ?_; refine xas rfl ?_; refine wpList_nil ?_
      refine tn ?_; refine hK2 _ _ ?_; clear hK2 K2; refine sq ?_; intro K3 hK3; refine sq ?_; intro K4 hK4; refine wp_region_lit ?_; refine xmv rfl ?_
      refine xnt rfl ?_; refine wpList_nil ?_; refine tn ?_; refine hK4 _ _ ?_; clear hK4 K4; refine ift rfl ?_; refine sq ?_; intro K5 hK5; refine wp_region_lit ?_
      refine xbu rfl ?_
      (refine xsta 2 H rfl rfl rfl rfl rfl rfl ?_; intro w H)
      refine wpList_nil ?_; refine tn ?_; refine hK5 _ _ ?_; clear hK5 K5; refine wp_ret ?_; refine tr ?_; clear hK3 K3
      refine hQ _ _ _ (bpr ?_)
      refine rca 0 [1, 1] rfl rfl H rfl (blk_cells (k := 2) rfl rfl) rfl rfl ?_
      exact ⟨⟨0, []⟩, μ, [], none, 0, Mem.rfl, led0R _, rfl, rfl, rfl⟩
    · rw [h0] at hC
      simp only at hC
      have hbl := readD_len hD h0
      obtain ⟨ν, ps, ao, cap, hμ, hL, H⟩ := (H.front' [1] rfl rfl).unvlt
      have hbo := (H.front' [2] rfl rfl).ownLen
      obtain ⟨ξ, hξ, hrb, H⟩ := (H.front' [2, 0] rfl rfl).freezeOwn
      have hsd := c_sdec ξ (hT.up (hμ.trans hξ).sees) bo bc bs hrb (by omega) hbo.2
      refine xmv rfl ?_; refine xex rfl rfl ?_; refine xex rfl rfl ?_; refine xas rfl ?_; refine xas rfl ?_; refine wpList_nil ?_
      refine tn ?_; refine hK2 _ _ ?_; clear hK2 K2; refine sq ?_; intro K3 hK3; refine sq ?_; intro K4 hK4; refine wp_region_lit ?_; refine xmv rfl ?_
      refine xnt rfl ?_; refine wpList_nil ?_; refine tn ?_; refine hK4 _ _ ?_; clear hK4 K4; refine iff_ rfl ?_; refine wp_skip ?_
      refine tn ?_; refine hK3 _ _ ?_; clear hK3 K3; refine sq ?_; intro K5 hK5; refine wp_region_lit ?_; refine xmv rfl ?_
      rcases hdc : snapDec bs with e | l0
      · rw [hdc] at hsd hC
        refine xc [0] H (hsd) rfl rfl rfl rfl rfl ?_; rintro _ _ w ⟨ζ, hζ, rfl, rfl⟩ H; replace H := H.ap rfl
        subst hC
        replace H := St.tovlt ((hμ.trans hξ).trans hζ) (hL.sees (hξ.trans hζ).sees) (H.front' [0, 0] rfl rfl)
        refine xmv rfl ?_; refine xex rfl rfl ?_; refine xex rfl rfl ?_; refine xal H ?_; intro b5 w H
        (refine xsta 0 H rfl rfl rfl rfl rfl rfl ?_; intro w H)
        refine xas rfl ?_; refine wpList_nil ?_; refine tn ?_; refine hK5 _ _ ?_; clear hK5 K5; refine sq ?_; intro K6 hK6; refine wp_region_lit ?_; refine xmv rfl ?_
        have he := snapDec_err hdc
        refine xcpr [] H ((c_must e)) rfl rfl rfl rfl rfl ?_ ?_
        · rintro _ _ w ⟨h1, rfl, rfl⟩ H; replace H := H.ap rfl; skip
          exact absurd h1 he
        · rintro k _ w ⟨rfl, h1, rfl⟩ H; replace H := H.ap rfl; refine tp ?_; clear hK6 K6; skip
          replace H := H.keeps [1, 1] rfl
          refine hQ _ _ _ (bpp H ?_)
          exact ⟨rfl, he, rfl⟩
      · rw [hdc] at hsd hC
        refine xc [0] H (hsd) rfl rfl rfl rfl rfl ?_; rintro _ _ w ⟨ζ, ps0, ao0, cap0, hζ, hL0, rfl, rfl⟩ H; replace H := H.ap rfl
        subst hC
        replace H := St.tovlt (Mem.rfl) (hL.sees (hξ.trans hζ).sees) (H.front' [0, 0] rfl rfl)
        refine xmv rfl ?_; refine xex rfl rfl ?_; refine xex rfl rfl ?_; refine xal H ?_; intro b5 w H
        (refine xsta 0 H rfl rfl rfl rfl rfl rfl ?_; intro w H)
        refine xas rfl ?_; refine wpList_nil ?_; refine tn ?_; refine hK5 _ _ ?_; clear hK5 K5; refine sq ?_; intro K6 hK6; refine wp_region_lit ?_; refine xmv rfl ?_
        refine xcpr [] H ((c_must 0)) rfl rfl rfl rfl rfl ?_ ?_
        · rintro _ _ w ⟨h1, rfl, rfl⟩ H; replace H := H.ap rfl; refine wpList_nil ?_; refine tn ?_; refine hK6 _ _ ?_; clear hK6 K6; refine sq ?_; intro K7 hK7
          refine wp_region_lit ?_
          refine xldab 0 H rfl rfl rfl rfl ?_
          (refine xsta 3 H rfl rfl rfl rfl rfl rfl ?_; intro w H)
          refine wpList_nil ?_; refine tn ?_; refine hK7 _ _ ?_; clear hK7 K7; refine wp_ret ?_
          refine hQ _ _ _ (bpr ?_)
          refine rca 0 [2, 2] rfl rfl H rfl (blk_cells (k := 2) rfl rfl) rfl rfl ?_
          exact ⟨l0, ζ, ps0, ao0, cap0, (hμ.trans hξ).trans hζ, hL0, rfl, rfl, rfl⟩
        · rintro k _ w ⟨rfl, h1, rfl⟩ H; replace H := H.ap rfl; refine tp ?_; clear hK6 K6; skip
          exact absurd rfl h1
  · rintro k _ w ⟨h0, h8, rfl⟩ H; replace H := H.ap rfl; refine tp ?_; clear hK2 K2; skip
    replace H := H.keeps [0, 0] rfl
    refine hQ _ _ _ (bpp H ?_)
    rw [h0] at hC
    simp only [if_neg h8] at hC
    subst hC
    exact ⟨rfl, readD_err h0, rfl⟩
theorem ledR_mk {A : Asn} {l : Ledg} {ps : List AcctP} {ao : Option Addr} {cap : Nat} (he : accts ps = l.l) (hr : Rd A ao (acctsV ps)) (hA : AcctsR A ps) (hc : l.l.length ≤ cap) (hn : l.l.length ≤ 1099511627776) (hs : l.seq < 18446744073709551616) : LedR A l ps ao cap := by
  have h1 : ps.length = l.l.length := by rw [← he]; simp
  exact ⟨he, hr, hA, by omega, by omega, hs⟩
theorem come_len (l : Ledg) (r : Rec) : (ledgerCome l r).l.length ≤ l.l.length + 1 := by
  unfold ledgerCome roomFor
  simp only [List.length_set]
  split
  · omega
  · simp only [List.length_append, List.length_take, List.length_cons, List.length_drop]; omega
theorem c_vcome (μ : Mem) (hT : Tab (imm μ)) (v db : Nat) (lp : Option Nat) (l : Ledg) (r : Rec) (hs : l.sm) (hr : r.ok) :
    Fn Tryz.prog 37 [.pointer (some ⟨v, 0, none⟩), .agg (recV r).toArray] [vltC μ v db lp l]
      (PRet faultV (fun x L => ledgerCheck l r = 0 ∧ x = .tuple #[] ∧ L = [vltC μ v db lp (ledgerCome l r)]) (fun k L => k = 12 ∧ ledgerCheck l r ≠ 0 ∧ L = [vltC μ v db lp l])) := by
  refine Fn.intro Tryz.call37 Tryz.func37 rfl Tryz.ntmps37 rfl ?_; intro g w Q hQ H
  obtain ⟨ν, ps, ao, cap, hμ, hL, H⟩ := H.unvlt
  have hap := c_lapply ν (hT.up hμ.sees) l ps ao cap r hL hs hr
  unfold lapplyR at hap
  refine sq ?_; intro K1 hK1; refine wp_region_lit ?_; refine xbx H rfl rfl ?_; intro b3 w H; refine wpList_nil ?_; refine tn ?_; refine hK1 _ _ ?_; clear hK1 K1
  refine sq ?_; intro K2 hK2
  by_cases h0 : ledgerCheck l r = 0
  · simp only [if_pos h0] at hap
    refine cutK5 (g := g) (α := Mem) (β := List AcctP) (γ := Option Addr) (δ := Nat) (ε := Nat) (fun ξ ps' ao' cap' b4 => [(0, .pointer (some ⟨v, 0, none⟩)), (4, .pointer (some ⟨b4, 0, none⟩)), (5, .int .i64 0)]) (fun ξ ps' ao' cap' b4 => [blk b4 (ledV (ledgerCome l r) ao' cap') ledT, imm ξ, blk v (vltV db lp l ao cap) vaultT]) (fun ξ ps' ao' cap' b4 => μ ≤ ξ ∧ LedR (imm ξ) (ledgerCome l r) ps' ao' cap') (fun K3 hK3 => ?_) (fun ξ ps' ao' cap' b4 ρ w hI H => ?_)
    · skip
      refine drwk (m := 12) [2, 0] 100000 rfl rfl rfl H ?_; clear H; intro w H; refine dt' 0 rfl (by kernel_rfl) (H.keeps [2, 0] rfl) (ymv rfl) ?_
      refine dt' 1 rfl (by kernel_rfl) (H.keeps [2, 0] rfl) (ync rfl) ?_
      refine dt' 2 rfl (by kernel_rfl) (H.keeps [2, 0] rfl) (yfa rfl) ?_
      refine dt 3 rfl (by kernel_rfl) (H.keeps [2, 0] rfl) (zldab 0 rfl rfl rfl rfl) ?_
      refine dt 4 rfl (by kernel_rfl) (H.keeps [2, 0] rfl) (zldab 1 rfl rfl rfl rfl) ?_
      refine do2 5 9 rfl rfl (by kernel_rfl) ?_ ?_
      · intro K4 hK4; refine xc [1] H (hap) rfl rfl rfl rfl rfl ?_; rintro _ _ w ⟨ξ, ps', ao', cap', hξ, he, hA, rfl, rfl⟩ H; replace H := H.ap rfl
        have hcp := H.ownLen
        obtain ⟨ζ, hζ, hrd, H⟩ := H.freezeOwn
        have hL' := ledR_mk he hrd (hA.sees hζ.sees) hcp.2 (Nat.le_trans (come_len l r) hs.n) hr.seq
        refine wpList_nil ?_; refine tn ?_; refine hK4 _ _ (fun _ => (by exact H.keeps [2, 1] rfl)) ?_; clear hK4 K4
        refine dt' 6 rfl (by kernel_rfl) (by exact H.keeps [2, 1] rfl) (ymv rfl) ?_
        refine dt' 7 rfl (by kernel_rfl) (by exact H.keeps [2, 1] rfl) (yex rfl rfl) ?_
        refine dt' 8 rfl (by kernel_rfl) (by exact H.keeps [2, 1] rfl) (yex rfl rfl) ?_
        refine do1 9 rfl (by kernel_rfl) ?_; intro K5 hK5; refine xal H ?_; intro b4 w H
        refine wpList_nil ?_; refine tn ?_; refine hK5 _ _ (fun _ => (by exact H.keeps [3, 2] rfl)) ?_; clear hK5 K5
        refine do1 10 rfl (by kernel_rfl) ?_; intro K6 hK6
        (refine xsta 0 H rfl rfl rfl rfl rfl rfl ?_; intro w H)
        refine wpList_nil ?_; refine tn ?_; refine hK6 _ _ (fun _ => (by exact H.keeps [3, 2] rfl)) ?_; clear hK6 K6
        refine dt' 11 rfl (by kernel_rfl) (by exact H.keeps [3, 2] rfl) (yas rfl) ?_; refine dd (by kernel_rfl) ?_
        replace H := H.keeps [0, 0, 1] rfl
        refine tn ?_; refine hK3 _ _ (ζ) (ps') (ao') (cap') (b4) ⟨rfl, rfl, rfl, True.intro⟩ ?_ H
        exact ⟨(hμ.trans hξ).trans hζ, hL'⟩
      · skip
        intro K4 hK4; refine xal H ?_; intro b4 w H; refine wpList_nil ?_; refine tn ?_; refine hK4 _ _ (fun _ => (H.keeps [3, 1] rfl)) ?_; clear hK4 K4
        refine do1 5 rfl (by kernel_rfl) ?_; intro K5 hK5
        refine xc [2] H (hap) rfl rfl rfl rfl rfl ?_; rintro _ _ w ⟨ξ, ps', ao', cap', hξ, he, hA, rfl, rfl⟩ H; replace H := H.ap rfl
        have hcp := H.ownLen
        obtain ⟨ζ, hζ, hrd, H⟩ := H.freezeOwn
        have hL' := ledR_mk he hrd (hA.sees hζ.sees) hcp.2 (Nat.le_trans (come_len l r) hs.n) hr.seq
        refine wpList_nil ?_; refine tn ?_; refine hK5 _ _ (fun _ => (by exact H.keeps [3, 2] rfl)) ?_; clear hK5 K5
        refine dt' 6 rfl (by kernel_rfl) (by exact H.keeps [3, 2] rfl) (ymv rfl) ?_
        refine dt' 7 rfl (by kernel_rfl) (by exact H.keeps [3, 2] rfl) (yex rfl rfl) ?_
        refine dt' 8 rfl (by kernel_rfl) (by exact H.keeps [3, 2] rfl) (yex rfl rfl) ?_; refine do1 10 rfl (by kernel_rfl) ?_; intro K6 hK6
        (refine xsta 1 H rfl rfl rfl rfl rfl rfl ?_; intro w H)
        refine wpList_nil ?_; refine tn ?_; refine hK6 _ _ (fun _ => (by exact H.keeps [3, 2] rfl)) ?_; clear hK6 K6
        refine dt' 11 rfl (by kernel_rfl) (by exact H.keeps [3, 2] rfl) (yas rfl) ?_; refine dd (by kernel_rfl) ?_
        replace H := H.keeps [0, 0, 1] rfl
        refine tn ?_; refine hK3 _ _ (ζ) (ps') (ao') (cap') (b4) ⟨rfl, rfl, rfl, True.intro⟩ ?_ H
        exact ⟨(hμ.trans hξ).trans hζ, hL'⟩
    · obtain ⟨hμ2, hL2⟩ := hI
      refine hK2 _ _ ?_; clear hK2 K2; refine sq ?_; intro K4 hK4; refine sq ?_; intro K5 hK5; refine wp_region_lit ?_; refine xmv rfl ?_; refine xne rfl rfl ?_
      refine wpList_nil ?_; refine tn ?_; refine hK5 _ _ ?_; clear hK5 K5; refine iff_ rfl ?_; refine wp_skip ?_; refine tn ?_; refine hK4 _ _ ?_; clear hK4 K4
      refine wp_region_lit ?_; refine xmv rfl ?_
      refine xldab 0 H rfl rfl rfl rfl ?_
      refine xnc rfl ?_
      refine xfa rfl ?_
      (refine xsta 2 H rfl rfl rfl rfl rfl rfl ?_; intro w H)
      refine wpList_nil ?_
      replace H := St.tovlt hμ2 hL2 (H.front' [2, 0] rfl rfl)
      replace H := H.keeps [0] rfl; refine hQ _ _ _ (bpr ?_); refine n0 rfl H ?_
      exact ⟨h0, rfl, rfl⟩
  · simp only [if_neg h0] at hap
    refine cutK (g := g) (α := Nat) (fun b4 => [(0, .pointer (some ⟨v, 0, none⟩)), (4, .pointer (some ⟨b4, 0, none⟩)), (5, .int .i64 (ledgerCheck l r))]) (fun b4 => [blk b4 ledZ ledT, imm ν, blk v (vltV db lp l ao cap) vaultT]) (fun b4 => True) (fun K3 hK3 => ?_) (fun b4 ρ w hI H => ?_)
    · skip
      refine drwk (m := 12) [2, 0] 100000 rfl rfl rfl H ?_; clear H; intro w H; refine dt' 0 rfl (by kernel_rfl) (H.keeps [2, 0] rfl) (ymv rfl) ?_
      refine dt' 1 rfl (by kernel_rfl) (H.keeps [2, 0] rfl) (ync rfl) ?_
      refine dt' 2 rfl (by kernel_rfl) (H.keeps [2, 0] rfl) (yfa rfl) ?_
      refine dt 3 rfl (by kernel_rfl) (H.keeps [2, 0] rfl) (zldab 0 rfl rfl rfl rfl) ?_
      refine dt 4 rfl (by kernel_rfl) (H.keeps [2, 0] rfl) (zldab 1 rfl rfl rfl rfl) ?_
      refine do2 5 9 rfl rfl (by kernel_rfl) ?_ ?_
      · intro K4 hK4; refine xc [1] H (hap) rfl rfl rfl rfl rfl ?_; rintro _ _ w ⟨rfl, rfl⟩ H; replace H := H.ap rfl
        refine wpList_nil ?_; refine tn ?_; refine hK4 _ _ (fun _ => (by exact H.keeps [2, 1] rfl)) ?_; clear hK4 K4
        refine dt' 6 rfl (by kernel_rfl) (by exact H.keeps [2, 1] rfl) (ymv rfl) ?_
        refine dt' 7 rfl (by kernel_rfl) (by exact H.keeps [2, 1] rfl) (yex rfl rfl) ?_
        refine dt' 8 rfl (by kernel_rfl) (by exact H.keeps [2, 1] rfl) (yex rfl rfl) ?_
        refine do1 9 rfl (by kernel_rfl) ?_; intro K5 hK5; refine xal H ?_; intro b4 w H
        refine wpList_nil ?_; refine tn ?_; refine hK5 _ _ (fun _ => (by exact H.keeps [3, 2] rfl)) ?_; clear hK5 K5
        refine do1 10 rfl (by kernel_rfl) ?_; intro K6 hK6
        (refine xsta 0 H rfl rfl rfl rfl rfl rfl ?_; intro w H)
        refine wpList_nil ?_; refine tn ?_; refine hK6 _ _ (fun _ => (by exact H.keeps [3, 2] rfl)) ?_; clear hK6 K6
        refine dt' 11 rfl (by kernel_rfl) (by exact H.keeps [3, 2] rfl) (yas rfl) ?_; refine dd (by kernel_rfl) ?_
        replace H := H.keeps [0, 0, 1] rfl
        refine tn ?_; refine hK3 _ _ (b4) ⟨rfl, rfl, rfl, True.intro⟩ ?_ H
        trivial
      · skip
        intro K4 hK4; refine xal H ?_; intro b4 w H; refine wpList_nil ?_; refine tn ?_; refine hK4 _ _ (fun _ => (H.keeps [3, 1] rfl)) ?_; clear hK4 K4
        refine do1 5 rfl (by kernel_rfl) ?_; intro K5 hK5
        refine xc [2] H (hap) rfl rfl rfl rfl rfl ?_; rintro _ _ w ⟨rfl, rfl⟩ H; replace H := H.ap rfl
        refine wpList_nil ?_; refine tn ?_; refine hK5 _ _ (fun _ => (by exact H.keeps [3, 2] rfl)) ?_; clear hK5 K5
        refine dt' 6 rfl (by kernel_rfl) (by exact H.keeps [3, 2] rfl) (ymv rfl) ?_
        refine dt' 7 rfl (by kernel_rfl) (by exact H.keeps [3, 2] rfl) (yex rfl rfl) ?_
        refine dt' 8 rfl (by kernel_rfl) (by exact H.keeps [3, 2] rfl) (yex rfl rfl) ?_; refine do1 10 rfl (by kernel_rfl) ?_; intro K6 hK6
        (refine xsta 1 H rfl rfl rfl rfl rfl rfl ?_; intro w H)
        refine wpList_nil ?_; refine tn ?_; refine hK6 _ _ (fun _ => (by exact H.keeps [3, 2] rfl)) ?_; clear hK6 K6
        refine dt' 11 rfl (by kernel_rfl) (by exact H.keeps [3, 2] rfl) (yas rfl) ?_; refine dd (by kernel_rfl) ?_
        replace H := H.keeps [0, 0, 1] rfl
        refine tn ?_; refine hK3 _ _ (b4) ⟨rfl, rfl, rfl, True.intro⟩ ?_ H
        trivial
    · refine hK2 _ _ ?_; clear hK2 K2; refine sq ?_; intro K4 hK4; refine sq ?_; intro K5 hK5; refine wp_region_lit ?_; refine xmv rfl ?_; refine xne rfl rfl ?_
      refine wpList_nil ?_; refine tn ?_; refine hK5 _ _ ?_; clear hK5 K5
      refine if_ rfl (fun h1 => ?_) (fun h1 => ?_)
      · refine wp_region_lit ?_
        refine xcpr [] H ((c_must 12)) rfl rfl rfl rfl rfl ?_ ?_
        · rintro _ _ w ⟨h2, rfl, rfl⟩ H; replace H := H.ap rfl; skip
          exact absurd h2 (by decide)
        · rintro k _ w ⟨rfl, h2, rfl⟩ H; replace H := H.ap rfl; refine tp ?_; clear hK4 K4; skip
          replace H := St.tovlt hμ hL (H.front' [1, 1] rfl rfl)
          replace H := H.keeps [0] rfl
          refine hQ _ _ _ (bpp H ?_)
          exact ⟨rfl, h0, rfl⟩
      · exact absurd h1 (by simpa using h0)
def vputV (l : Ledg) (W : Wal) (r : Rec) : (Nat × Int) × Ledg × Wal :=
  if ledgerCheck l { r with seq := W.next } ≠ 0 then ((0, ledgerCheck l { r with seq := W.next }), l, W)
  else if (putW W { r with seq := W.next }).1.2 ≠ 0 then ((0, (putW W { r with seq := W.next }).1.2), l, (putW W { r with seq := W.next }).2)
  else ((putW W { r with seq := W.next }).1, ledgerCome l { r with seq := W.next }, (putW W { r with seq := W.next }).2)
theorem c_vput (μ : Mem) (hT : Tab (imm μ)) (v db lb : Nat) (l : Ledg) (W : Wal) (r : Rec) (hs : l.sm) (hr : r.ok) (hW : W.ok) :
    Fn Tryz.prog 21 [.pointer (some ⟨v, 0, none⟩), .agg (recV r).toArray] [vltC μ v db (some lb) l, logC lb db W]
      (Ret fun x L => x = .tuple #[.int .u64 (vputV l W r).1.1, .int .i64 (vputV l W r).1.2] ∧ L = [vltC μ v db (some lb) (vputV l W r).2.1, logC lb db (vputV l W r).2.2]) := by
  obtain ⟨C, hC⟩ : ∃ C, vputV l W r = C := ⟨_, rfl⟩
  rw [hC]
  unfold vputV at hC
  have hr' : ({ r with seq := W.next } : Rec).ok := ⟨hW.next, hr.2, hr.3, hr.4, hr.5⟩
  obtain ⟨rq, hr2⟩ : ∃ rq, ({ r with seq := W.next } : Rec) = rq := ⟨_, rfl⟩
  have hrv : recV rq = [.int .u64 W.next, .int .i64 r.kind, .string (str r.tenant), .int .u64 r.lease, .int .u64 r.n, .int .u64 r.bits] := by rw [← hr2]; rfl
  rw [hr2] at hC hr'
  have hpw := c_wput lb db W rq hW hr'
  refine Fn.intro Tryz.call21 Tryz.func21 rfl Tryz.ntmps21 rfl ?_; intro g w Q hQ H
  obtain ⟨ν, ps, ao, cap, hμ, hL, H⟩ := H.unvlt
  have hap := c_lapply ν (hT.up hμ.sees) l ps ao cap rq hL hs hr'
  unfold lapplyR at hap
  refine sq ?_; intro K1 hK1; refine wp_region_lit ?_; refine xbx H rfl rfl ?_; intro b3 w H; refine xas rfl ?_; refine xas rfl ?_; refine wpList_nil ?_
  refine tn ?_; refine hK1 _ _ ?_; clear hK1 K1; refine sq ?_; intro K2 hK2; refine wp_region_lit ?_; refine xmv rfl ?_
  refine xnc rfl ?_
  refine xfa rfl ?_
  refine xldb 2 H rfl rfl rfl ?_
  refine xc [3] H ((c_wnext lb db W)) rfl rfl rfl rfl rfl ?_; rintro _ _ w ⟨rfl, rfl⟩ H; replace H := H.ap rfl
  refine xfa rfl ?_
  (refine xst 1 H rfl rfl rfl rfl rfl ?_; intro w H)
  refine wpList_nil ?_; refine tn ?_; refine hK2 _ _ ?_; clear hK2 K2; refine sq ?_; intro K3 hK3
  rw [← hrv] at H
  by_cases h0 : ledgerCheck l rq = 0
  · simp only [if_pos h0] at hap
    rw [if_neg (by simpa using h0)] at hC
    refine cutK5 (g := g) (α := Mem) (β := List AcctP) (γ := Option Addr) (δ := Nat) (ε := Nat) (fun ξ ps' ao' cap' b6 => [(0, .pointer (some ⟨v, 0, none⟩)), (3, .pointer (some ⟨b3, 0, none⟩)), (6, .pointer (some ⟨b6, 0, none⟩)), (7, .int .i64 0)]) (fun ξ ps' ao' cap' b6 => [blk b6 (ledV (ledgerCome l rq) ao' cap') ledT, imm ξ, blk v (vltV db (some lb) l ao cap) vaultT, blk b3 (recV rq) recT, logC lb db W]) (fun ξ ps' ao' cap' b6 => μ ≤ ξ ∧ LedR (imm ξ) (ledgerCome l rq) ps' ao' cap' ∧ ν ≤ ξ) (fun K4 hK4 => ?_) (fun ξ ps' ao' cap' b6 ρ w hI H => ?_)
    · skip
      refine drwk (m := 12) [3, 0] 100000 rfl rfl rfl H ?_; clear H; intro w H; refine dt' 0 rfl (by kernel_rfl) (H.keeps [3, 0] rfl) (ymv rfl) ?_
      refine dt' 1 rfl (by kernel_rfl) (H.keeps [3, 0] rfl) (ync rfl) ?_
      refine dt' 2 rfl (by kernel_rfl) (H.keeps [3, 0] rfl) (yfa rfl) ?_
      refine dt 3 rfl (by kernel_rfl) (H.keeps [3, 0] rfl) (zldab 0 rfl rfl rfl rfl) ?_
      refine dt 4 rfl (by kernel_rfl) (H.keeps [3, 0] rfl) (zldab 1 rfl rfl rfl rfl) ?_
      refine do2 5 9 rfl rfl (by kernel_rfl) ?_ ?_
      · intro K5 hK5; refine xc [2] H (hap) rfl rfl rfl rfl rfl ?_; rintro _ _ w ⟨ξ, ps', ao', cap', hξ, he, hA, rfl, rfl⟩ H; replace H := H.ap rfl
        have hcp := H.ownLen
        obtain ⟨ζ, hζ, hrd, H⟩ := H.freezeOwn
        have hL' := ledR_mk he hrd (hA.sees hζ.sees) hcp.2 (Nat.le_trans (come_len l rq) hs.n) hr'.seq
        refine wpList_nil ?_; refine tn ?_; refine hK5 _ _ (fun _ => (by exact H.keeps [3, 1] rfl)) ?_; clear hK5 K5
        refine dt' 6 rfl (by kernel_rfl) (by exact H.keeps [3, 1] rfl) (ymv rfl) ?_
        refine dt' 7 rfl (by kernel_rfl) (by exact H.keeps [3, 1] rfl) (yex rfl rfl) ?_
        refine dt' 8 rfl (by kernel_rfl) (by exact H.keeps [3, 1] rfl) (yex rfl rfl) ?_
        refine do1 9 rfl (by kernel_rfl) ?_; intro K6 hK6; refine xal H ?_; intro b6 w H
        refine wpList_nil ?_; refine tn ?_; refine hK6 _ _ (fun _ => (by exact H.keeps [4, 2] rfl)) ?_; clear hK6 K6
        refine do1 10 rfl (by kernel_rfl) ?_; intro K7 hK7
        (refine xsta 0 H rfl rfl rfl rfl rfl rfl ?_; intro w H)
        refine wpList_nil ?_; refine tn ?_; refine hK7 _ _ (fun _ => (by exact H.keeps [4, 2] rfl)) ?_; clear hK7 K7
        refine dt' 11 rfl (by kernel_rfl) (by exact H.keeps [4, 2] rfl) (yas rfl) ?_; refine dd (by kernel_rfl) ?_
        replace H := H.keeps [0, 0, 2, 0, 0] rfl
        refine tn ?_; refine hK4 _ _ (ζ) (ps') (ao') (cap') (b6) ⟨rfl, rfl, rfl, rfl, True.intro⟩ ?_ H
        exact ⟨(hμ.trans hξ).trans hζ, hL', hξ.trans hζ⟩
      · skip
        intro K5 hK5; refine xal H ?_; intro b6 w H; refine wpList_nil ?_; refine tn ?_; refine hK5 _ _ (fun _ => (H.keeps [4, 1] rfl)) ?_; clear hK5 K5
        refine do1 5 rfl (by kernel_rfl) ?_; intro K6 hK6
        refine xc [3] H (hap) rfl rfl rfl rfl rfl ?_; rintro _ _ w ⟨ξ, ps', ao', cap', hξ, he, hA, rfl, rfl⟩ H; replace H := H.ap rfl
        have hcp := H.ownLen
        obtain ⟨ζ, hζ, hrd, H⟩ := H.freezeOwn
        have hL' := ledR_mk he hrd (hA.sees hζ.sees) hcp.2 (Nat.le_trans (come_len l rq) hs.n) hr'.seq
        refine wpList_nil ?_; refine tn ?_; refine hK6 _ _ (fun _ => (by exact H.keeps [4, 2] rfl)) ?_; clear hK6 K6
        refine dt' 6 rfl (by kernel_rfl) (by exact H.keeps [4, 2] rfl) (ymv rfl) ?_
        refine dt' 7 rfl (by kernel_rfl) (by exact H.keeps [4, 2] rfl) (yex rfl rfl) ?_
        refine dt' 8 rfl (by kernel_rfl) (by exact H.keeps [4, 2] rfl) (yex rfl rfl) ?_; refine do1 10 rfl (by kernel_rfl) ?_; intro K7 hK7
        (refine xsta 1 H rfl rfl rfl rfl rfl rfl ?_; intro w H)
        refine wpList_nil ?_; refine tn ?_; refine hK7 _ _ (fun _ => (by exact H.keeps [4, 2] rfl)) ?_; clear hK7 K7
        refine dt' 11 rfl (by kernel_rfl) (by exact H.keeps [4, 2] rfl) (yas rfl) ?_; refine dd (by kernel_rfl) ?_
        replace H := H.keeps [0, 0, 2, 0, 0] rfl
        refine tn ?_; refine hK4 _ _ (ζ) (ps') (ao') (cap') (b6) ⟨rfl, rfl, rfl, rfl, True.intro⟩ ?_ H
        exact ⟨(hμ.trans hξ).trans hζ, hL', hξ.trans hζ⟩
    · obtain ⟨hμ2, hL2, hν2⟩ := hI
      refine hK3 _ _ ?_; clear hK3 K3; refine sq ?_; intro K5 hK5; refine sq ?_; intro K6 hK6; refine wp_region_lit ?_; refine xmv rfl ?_; refine xne rfl rfl ?_
      refine wpList_nil ?_; refine tn ?_; refine hK6 _ _ ?_; clear hK6 K6; refine iff_ rfl ?_; refine wp_skip ?_; refine tn ?_; refine hK5 _ _ ?_; clear hK5 K5
      refine sq ?_; intro K7 hK7
      generalize putW W rq = PW at hpw hC
      refine drwk (m := 11) [2, 2] 100000 rfl rfl rfl H ?_; clear H; intro w H; refine dt' 0 rfl (by kernel_rfl) (H.keeps [2, 2] rfl) (ymv rfl) ?_
      refine dt' 1 rfl (by kernel_rfl) (H.keeps [2, 2] rfl) (ync rfl) ?_
      refine dt' 2 rfl (by kernel_rfl) (H.keeps [2, 2] rfl) (yfa rfl) ?_
      refine dt 3 rfl (by kernel_rfl) (H.keeps [2, 2] rfl) (zldb 0 rfl rfl rfl) ?_
      refine dt 4 rfl (by kernel_rfl) (H.keeps [2, 2] rfl) (zldab 1 rfl rfl rfl rfl) ?_
      refine do1 5 rfl (by kernel_rfl) ?_; intro K8 hK8
      refine xc [4] H (hpw) rfl rfl rfl rfl rfl ?_; rintro _ _ w ⟨rfl, rfl⟩ H; replace H := H.ap rfl
      refine wpList_nil ?_; refine tn ?_; refine hK8 _ _ (fun _ => (H.keeps [3, 3] rfl)) ?_; clear hK8 K8
      refine dt' 6 rfl (by kernel_rfl) (H.keeps [3, 3] rfl) (ymv rfl) ?_; refine dt' 7 rfl (by kernel_rfl) (H.keeps [3, 3] rfl) (yex rfl rfl) ?_
      refine dt' 8 rfl (by kernel_rfl) (H.keeps [3, 3] rfl) (yex rfl rfl) ?_; refine dt' 9 rfl (by kernel_rfl) (H.keeps [3, 3] rfl) (yas rfl) ?_
      refine dt' 10 rfl (by kernel_rfl) (H.keeps [3, 3] rfl) (yas rfl) ?_; refine dd (by kernel_rfl) ?_; refine tn ?_; refine hK7 _ _ ?_; clear hK7 K7
      refine sq ?_; intro K9 hK9; refine sq ?_; intro K10 hK10; refine wp_region_lit ?_; refine xmv rfl ?_; refine xne rfl rfl ?_; refine wpList_nil ?_
      refine tn ?_; refine hK10 _ _ ?_; clear hK10 K10
      refine if_ rfl (fun h1 => ?_) (fun h1 => ?_)
      · have h1 : PW.1.2 ≠ 0 := by simpa using h1
        rw [if_pos h1] at hC
        subst hC
        refine sq ?_; intro K11 hK11; refine wp_region_lit ?_; refine xmv rfl ?_; refine xas rfl ?_; refine xas rfl ?_; refine wpList_nil ?_
        refine tn ?_; refine hK11 _ _ ?_; clear hK11 K11; refine wp_ret ?_; refine tr ?_; clear hK9 K9
        replace H := St.tovlt (hμ.trans hν2) (hL.sees hν2.sees) (H.front' [2, 2] rfl rfl)
        replace H := H.keeps [0, 0] rfl
        refine hQ _ _ _ ?_; refine r2 rfl rfl rfl H ?_
        exact ⟨rfl, rfl⟩
      · have h1 : ¬ PW.1.2 ≠ 0 := by simpa using h1
        rw [if_neg h1] at hC
        have h1 : PW.1.2 = 0 := Classical.not_not.1 h1
        subst hC
        refine wp_skip ?_; refine tn ?_; refine hK9 _ _ ?_; clear hK9 K9; refine sq ?_; intro K11 hK11; refine wp_region_lit ?_; refine xmv rfl ?_
        refine xldab 1 H rfl rfl rfl rfl ?_
        refine xnc rfl ?_
        refine xfa rfl ?_
        (refine xsta 3 H rfl rfl rfl rfl rfl rfl ?_; intro w H)
        refine wpList_nil ?_; refine tn ?_; refine hK11 _ _ ?_; clear hK11 K11; refine sq ?_; intro K12 hK12; refine wp_region_lit ?_; refine xmv rfl ?_
        refine xas rfl ?_; refine xas rfl ?_; refine wpList_nil ?_; refine tn ?_; refine hK12 _ _ ?_; clear hK12 K12; refine wp_ret ?_
        replace H := St.tovlt hμ2 hL2 (H.front' [3, 0] rfl rfl)
        replace H := H.keeps [0, 0] rfl
        refine hQ _ _ _ ?_; refine r2 rfl rfl rfl H ?_
        exact ⟨by rw [← h1], rfl⟩
  · simp only [if_neg h0] at hap
    rw [if_pos h0] at hC
    subst hC
    refine cutK (g := g) (α := Nat) (fun b6 => [(0, .pointer (some ⟨v, 0, none⟩)), (6, .pointer (some ⟨b6, 0, none⟩)), (7, .int .i64 (ledgerCheck l rq))]) (fun b6 => [blk b6 ledZ ledT, imm ν, blk v (vltV db (some lb) l ao cap) vaultT, logC lb db W]) (fun b6 => True) (fun K4 hK4 => ?_) (fun b6 ρ w hI H => ?_)
    · skip
      refine drwk (m := 12) [3, 0] 100000 rfl rfl rfl H ?_; clear H; intro w H; refine dt' 0 rfl (by kernel_rfl) (H.keeps [3, 0] rfl) (ymv rfl) ?_
      refine dt' 1 rfl (by kernel_rfl) (H.keeps [3, 0] rfl) (ync rfl) ?_
      refine dt' 2 rfl (by kernel_rfl) (H.keeps [3, 0] rfl) (yfa rfl) ?_
      refine dt 3 rfl (by kernel_rfl) (H.keeps [3, 0] rfl) (zldab 0 rfl rfl rfl rfl) ?_
      refine dt 4 rfl (by kernel_rfl) (H.keeps [3, 0] rfl) (zldab 1 rfl rfl rfl rfl) ?_
      refine do2 5 9 rfl rfl (by kernel_rfl) ?_ ?_
      · intro K5 hK5; refine xc [2] H (hap) rfl rfl rfl rfl rfl ?_; rintro _ _ w ⟨rfl, rfl⟩ H; replace H := H.ap rfl
        refine wpList_nil ?_; refine tn ?_; refine hK5 _ _ (fun _ => (by exact H.keeps [3, 1] rfl)) ?_; clear hK5 K5
        refine dt' 6 rfl (by kernel_rfl) (by exact H.keeps [3, 1] rfl) (ymv rfl) ?_
        refine dt' 7 rfl (by kernel_rfl) (by exact H.keeps [3, 1] rfl) (yex rfl rfl) ?_
        refine dt' 8 rfl (by kernel_rfl) (by exact H.keeps [3, 1] rfl) (yex rfl rfl) ?_
        refine do1 9 rfl (by kernel_rfl) ?_; intro K6 hK6; refine xal H ?_; intro b6 w H
        refine wpList_nil ?_; refine tn ?_; refine hK6 _ _ (fun _ => (by exact H.keeps [4, 2] rfl)) ?_; clear hK6 K6
        refine do1 10 rfl (by kernel_rfl) ?_; intro K7 hK7
        (refine xsta 0 H rfl rfl rfl rfl rfl rfl ?_; intro w H)
        refine wpList_nil ?_; refine tn ?_; refine hK7 _ _ (fun _ => (by exact H.keeps [4, 2] rfl)) ?_; clear hK7 K7
        refine dt' 11 rfl (by kernel_rfl) (by exact H.keeps [4, 2] rfl) (yas rfl) ?_; refine dd (by kernel_rfl) ?_
        replace H := H.keeps [0, 0, 2, 1] rfl
        refine tn ?_; refine hK4 _ _ (b6) ⟨rfl, rfl, rfl, True.intro⟩ ?_ H
        trivial
      · skip
        intro K5 hK5; refine xal H ?_; intro b6 w H; refine wpList_nil ?_; refine tn ?_; refine hK5 _ _ (fun _ => (H.keeps [4, 1] rfl)) ?_; clear hK5 K5
        refine do1 5 rfl (by kernel_rfl) ?_; intro K6 hK6
        refine xc [3] H (hap) rfl rfl rfl rfl rfl ?_; rintro _ _ w ⟨rfl, rfl⟩ H; replace H := H.ap rfl
        refine wpList_nil ?_; refine tn ?_; refine hK6 _ _ (fun _ => (by exact H.keeps [4, 2] rfl)) ?_; clear hK6 K6
        refine dt' 6 rfl (by kernel_rfl) (by exact H.keeps [4, 2] rfl) (ymv rfl) ?_
        refine dt' 7 rfl (by kernel_rfl) (by exact H.keeps [4, 2] rfl) (yex rfl rfl) ?_
        refine dt' 8 rfl (by kernel_rfl) (by exact H.keeps [4, 2] rfl) (yex rfl rfl) ?_; refine do1 10 rfl (by kernel_rfl) ?_; intro K7 hK7
        (refine xsta 1 H rfl rfl rfl rfl rfl rfl ?_; intro w H)
        refine wpList_nil ?_; refine tn ?_; refine hK7 _ _ (fun _ => (by exact H.keeps [4, 2] rfl)) ?_; clear hK7 K7
        refine dt' 11 rfl (by kernel_rfl) (by exact H.keeps [4, 2] rfl) (yas rfl) ?_; refine dd (by kernel_rfl) ?_
        replace H := H.keeps [0, 0, 2, 1] rfl
        refine tn ?_; refine hK4 _ _ (b6) ⟨rfl, rfl, rfl, True.intro⟩ ?_ H
        trivial
    · refine hK3 _ _ ?_; clear hK3 K3; refine sq ?_; intro K5 hK5; refine sq ?_; intro K6 hK6; refine wp_region_lit ?_; refine xmv rfl ?_; refine xne rfl rfl ?_
      refine wpList_nil ?_; refine tn ?_; refine hK6 _ _ ?_; clear hK6 K6
      refine if_ rfl (fun h1 => ?_) (fun h1 => ?_)
      · refine sq ?_; intro K7 hK7; refine wp_region_lit ?_; refine xmv rfl ?_; refine xas rfl ?_; refine xas rfl ?_; refine wpList_nil ?_
        refine tn ?_; refine hK7 _ _ ?_; clear hK7 K7; refine wp_ret ?_; refine tr ?_; clear hK5 K5
        replace H := St.tovlt hμ hL (H.front' [1, 1] rfl rfl)
        replace H := H.keeps [0, 1] rfl
        refine hQ _ _ _ ?_; refine r2 rfl rfl rfl H ?_
        exact ⟨rfl, rfl⟩
      · exact absurd h1 (by simpa using h0)
end Go.Proofs.YtegllbmkkfnajaaGreatDoor
end
