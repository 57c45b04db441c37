/-
  Own texts of this claim: walks of the functions, and what is reckoned of them.
-/
import Derived.Test.YtegllbmkkfnajaaGreatDoorM3
import Derived.Lib.Overlaps
section
namespace Go.Proofs.YtegllbmkkfnajaaGreatDoor
open Go Go.Proofs
attribute [local irreducible] Go.wpList Go.Code.wp St Fn mk
set_option maxRecDepth 20000
def ledO (μ : Mem) (l : Ledg) (v : Value) (L : List Asn) : Prop :=
  ∃ ν ps ao cap, μ ≤ ν ∧ accts ps = l.l ∧ AcctsR (imm ν) ps ∧ v = .agg (ledV l ao cap).toArray ∧ L = [own ao cap acctT 7 l.l.length (acctsV ps), imm ν]
theorem c_lclone (μ : Mem) (l : Ledg) (ps : List AcctP) (ao : Option Addr) (cap : Nat) (hL : LedR (imm μ) l ps ao cap) :
    Fn Tryz.prog 30 [.agg (ledV l ao cap).toArray] [imm μ] (Ret (ledO μ l)) := by
  have hn := hL.n
  refine Fn.intro Tryz.call30 Tryz.func30 rfl Tryz.ntmps30 rfl ?_; intro g w Q hQ H
  refine sq ?_; intro K1 hK1; refine wp_region_lit ?_; refine xbx H rfl rfl ?_; intro b1 w H; refine xal H ?_; intro b2 w H; refine wpList_nil ?_
  refine tn ?_; refine hK1 _ _ ?_; clear hK1 K1; refine sq ?_; intro K2 hK2; refine wp_region_lit ?_; refine xas rfl ?_; refine wpList_nil ?_
  refine tn ?_; refine hK2 _ _ ?_; clear hK2 K2; refine sq ?_; intro K3 hK3; refine sq ?_; intro K4 hK4; refine wp_region_lit ?_; refine xfa rfl ?_
  refine xldb 1 H rfl rfl rfl ?_
  refine xli rfl ?_; refine xmv rfl ?_; refine wpList_nil ?_; refine tn ?_; refine hK4 _ _ ?_; clear hK4 K4; refine wp_block ?_
  replace H := H.ownNil acctT 7
  refine lp5 (α := Nat) (β := Mem) (γ := Option Addr) (δ := Nat) (ε := List AcctP) (fun k ν ao2 cap2 ps2 => [(1, .pointer (some ⟨b1, 0, none⟩)), (2, .pointer (some ⟨b2, 0, none⟩)), (3, .slice ao2 k cap2), (7, .slice ao l.l.length cap), (8, .int .i64 l.l.length), (9, .int .i64 k)]) (fun k ν ao2 cap2 ps2 => [own ao2 cap2 acctT 7 k (acctsV ps2), blk b2 [.int .u64 0, .slice none 0 0] ledT, blk b1 (ledV l ao cap) ledT, imm ν]) (fun k ν ao2 cap2 ps2 => μ ≤ ν ∧ AcctsR (imm ν) ps2 ∧ accts ps2 = l.l.take k ∧ k ≤ l.l.length) (fun k ν ao2 cap2 ps2 => l.l.length - k) (0) (μ) (none) (0) ([]) ⟨rfl, rfl, rfl, rfl, rfl, rfl, True.intro⟩ (⟨Mem.rfl, fun _ h => absurd h (by simp), rfl, Nat.zero_le _⟩) H ?_; intro k ν ao2 cap2 ps2 ρ w hI H K5 hK5
  obtain ⟨hμ, hA, hps, hk⟩ := hI
  refine sq ?_; intro K6 hK6; refine wp_region_lit ?_; refine xlt rfl rfl ?_; refine wpList_nil ?_; refine tn ?_; refine hK6 _ _ ?_; clear hK6 K6
  refine sq ?_; intro K7 hK7
  refine if_ rfl (fun k1 => ?_) (fun k1 => ?_)
  · have k1 : k < l.l.length := by simpa using k1
    obtain ⟨p, hp, hpe, hpok, hpr⟩ := hL.at k1
    have hln := hL.len
    refine wp_skip ?_; refine tn ?_; refine hK7 _ _ ?_; clear hK7 K7; refine sq ?_; intro K8 hK8; refine wp_block ?_; refine sq ?_; intro K9 hK9
    refine wp_region_lit ?_
    refine xiar (hL.rd.up hμ) (flat_get AcctP.len hp) (by simp [AcctP.v, acctV]) k1 rfl rfl rfl ?_; intro b11 o11 hx11
    refine xlda 3 H rfl rfl hx11 rfl ?_
    refine xal H ?_; intro b5 w H
    (refine xsta 0 H rfl rfl rfl rfl rfl rfl ?_; intro w H)
    refine wpList_nil ?_; refine tn ?_; refine hK9 _ _ ?_; clear hK9 K9; refine wp_region_lit ?_; refine xmv rfl ?_
    refine xldab 0 H rfl rfl rfl rfl ?_
    refine xc [4] H ((c_aclone (imm ν) p.a p.lo p.lc p.co p.cc hpok.nl hpok.nc (AcctR.sees hpr hμ.sees))) rfl rfl rfl rfl rfl ?_; rintro _ _ w ⟨lo3, lc3, co3, cc3, rfl, rfl⟩ H; replace H := H.ap rfl
    have hc1 := (H.front' [0] rfl rfl).ownLen
    have hc2 := (H.front' [1] rfl rfl).ownLen
    obtain ⟨ξ1, hξ1, hr1, H⟩ := (H.front' [0, 1] rfl rfl).freezeOwn
    obtain ⟨ξ2, hξ2, hr2, H⟩ := (H.front' [1, 0] rfl rfl).freezeOwn
    refine xbs H rfl rfl rfl (by simp [Value.cells] <;> rfl) rfl rfl ?_; intro b16 w H
    refine xap 3 H rfl rfl rfl (src_at (news := AcctP.v ⟨p.a, lo3, lc3, co3, cc3⟩) 0 H rfl (St.ownRd H) rfl) (AcctP.one _) (by omega) (by simp only [maxLen]; omega) ?_; intro ao17 cap17 w H hn17
    refine xas rfl ?_; refine wpList_nil ?_; refine bn ?_; refine tn ?_; refine hK8 _ _ ?_; clear hK8 K8; refine wp_region_lit ?_
    refine xadi rfl rfl (wi64 (by omega)) ?_
    refine xmv rfl ?_; refine wpList_nil ?_
    replace H := H.keeps [0, 3, 3, 1] rfl
    have e : acctsV ps2 ++ AcctP.v ⟨p.a, lo3, lc3, co3, cc3⟩ = acctsV (ps2 ++ [⟨p.a, lo3, lc3, co3, cc3⟩]) := by simp [acctsV]
    rw [e] at H
    have hs := (hξ1.trans hξ2)
    have hl1 : p.a = l.l[k] := by rw [hpe]; unfold acctAt; rw [List.getElem?_eq_getElem k1]
    refine tn ?_; refine hK5 _ _ (k + 1) (ξ2) (ao17) (cap17) (ps2 ++ [⟨p.a, lo3, lc3, co3, cc3⟩]) ⟨rfl, rfl, rfl, rfl, rfl, rfl, True.intro⟩ ?_ H ?_
    · refine ⟨hμ.trans hs, ?_, ?_, k1⟩
      · intro q hq
        rcases List.mem_append.1 hq with hq | hq
        · exact ⟨(hA q hq).1, AcctR.sees (hA q hq).2 hs.sees⟩
        · rw [List.mem_singleton] at hq; subst hq
          exact ⟨hpok, ⟨hr1.up hξ2, hr2, hc1.2, hc2.2⟩⟩
      · unfold accts at hps ⊢; rw [List.map_append, hps, List.take_add_one, List.getElem?_eq_getElem k1, ← hl1]; rfl
    · omega
  · have k1 : k = l.l.length := by have := of_decide_eq_false k1; omega
    subst k1
    refine wp_exit ?_; refine te ?_; clear hK7 K7; refine te ?_; clear hK5 K5; refine be ?_; refine tn ?_; refine hK3 _ _ ?_; clear hK3 K3
    refine sq ?_; intro K8 hK8; refine wp_region_lit ?_; refine xmv rfl ?_; refine xfa rfl ?_
    (refine xst 2 H rfl rfl rfl rfl rfl ?_; intro w H)
    refine wpList_nil ?_; refine tn ?_; refine hK8 _ _ ?_; clear hK8 K8; refine sq ?_; intro K9 hK9; refine wp_region_lit ?_
    refine xldab 0 H rfl rfl rfl rfl ?_
    (refine xsta 2 H rfl rfl rfl rfl rfl rfl ?_; intro w H)
    refine wpList_nil ?_; refine tn ?_; refine hK9 _ _ ?_; clear hK9 K9; refine wp_ret ?_
    refine hQ _ _ _ ?_
    refine rca 0 [2, 2] rfl rfl H rfl (blk_cells (k := 2) rfl rfl) rfl rfl ?_
    exact ⟨ν, ps2, ao2, cap2, hμ, by simpa using hps, hA, rfl, rfl⟩
end Go.Proofs.YtegllbmkkfnajaaGreatDoor
end
section
namespace Go.Proofs.YtegllbmkkfnajaaGreatDoor
open Go Go.RowKit
section
variable {P : Program} {ops : Array Oper} {Q : Exit → Act → World → Prop} {rest : List Oper} {n d ty : Nat} {pos : String} {af : Array Edge} {ρ : Env} {ds : List Deferred} {w : World} {g : Gh} {L M : List Asn}
theorem xbsb {T E sz by_ m : Nat} {z : List Value} {parts : List (Nat × Operand)} {xs : List Operand} {vs c : List Value} [TSl P T E sz] [TEl P E sz by_ z] (H : St g w L) (hp : inOrder 0 parts = some xs) (hx : evl n ρ xs = some vs) (hc : catV vs = some c) (hz : ∀ v ∈ vs, v.cells.size = sz)
    (hm : Nat.beq parts.length m = true) (hs : Nat.ble (m * sz) 16777216 = true)
    (h : ∀ b w', St g w' (blk b c E :: L) → wpList P ops Q rest (mk n (upd ρ d (.slice (some ⟨b, 0, none⟩) m m)) ds) w') :
    wpList P ops Q (⟨some d, .buildSlice T m parts.toArray, ty, pos, af, none⟩ :: rest) (mk n ρ ds) w := by
  have hm := Nat.eq_of_beq_eq_true hm
  have hs := Nat.le_of_ble_eq_true hs
  obtain ⟨i, v, hi, hsz, hby, hzz, hv⟩ := TEl.out (P := P) (E := E)
  have hzl := TEl.len (P := P) (E := E)
  have hpos := TEl.pos (P := P) (E := E)
  have hcl : c.length = m * sz := by rw [catV_len hc hz, evl_len hx, inOrder_len hp, hm]
  have hfill : ∀ cs : Array Value, cs.size = m * sz → Instr.fill (fun i => some (i * sz, sz)) cs (parts.map fun p => (p.1, (mk n ρ ds).eval p.2)) = some c.toArray := by
    intro cs hcs
    have := fill_inOrder (ds := ds) parts xs vs c 0 cs hp hx hc hz (by rw [hcs, hcl]; omega)
    simpa using this
  subst hsz
  refine st_val (v := .slice (some ⟨w.heap.size, 0, none⟩) m m) (w' := w.alloc (.cells c.toArray E)) ?_ (h _ _ ?_)
  · simp only [execOp, Instr.buildSlice]
    have hle : ¬ (m * i.size > 2 ^ 24) := by omega
    have hf : ∀ zs : Array Value, Instr.fill (fun j => some (j * i.size, i.size)) ((Array.range (m * i.size)).map (fun x => zs[x % zs.size]!)) (parts.map fun p => (p.1, (mk n ρ ds).eval p.2)) = some c.toArray := fun zs => hfill _ (by simp)
    by_cases h0 : m * i.size = 0
    · simp [run_underlying (TSl.out (P := P) (T := T)), sizeOf, typeInfo, zeroValue, hi, hzz, h0, newRow]
      have := hfill (Array.map (fun _ => default) (Array.range 0)) (by simp [h0])
      rw [this]; simp
    · have hf' := hf v.cells
      simp [run_underlying (TSl.out (P := P) (T := T)), sizeOf, typeInfo, zeroValue, hi, hzz, h0, newRow, Nat.not_lt.2 hs]
      rw [hf']; simp
  · exact H.alloc (.cells c.toArray E)
theorem St.ownExt {ao : Option Addr} {cap E sz nn : Nat} {cells : List Value} (m : Nat) (hm : nn + m ≤ cap) (H : St g w (own ao cap E sz nn cells :: L)) :
    ∃ junk, junk.length = m * sz ∧ St g w (own ao cap E sz (nn + m) (cells ++ junk) :: L) := by
  by_cases hc0 : cap = 0
  · have : m = 0 := by omega
    subst this
    exact ⟨[], by simp, by simpa using H⟩
  · obtain ⟨F, ⟨F1, F2, ⟨h1, h2, h3⟩, hS, hd, hu⟩, r⟩ := H
    obtain ⟨b, off, c, fr, e, hF, hh, hU, hs, hc⟩ := h3.resolve_left (fun h => hc0 h.1)
    have hle : (nn + m) * sz ≤ cap * sz := Nat.mul_le_mul_right _ hm
    have hadd : (nn + m) * sz = nn * sz + m * sz := Nat.add_mul _ _ _
    refine ⟨((c.toList.drop off).drop (nn * sz)).take (m * sz), by simp; omega, F, ⟨F1, F2, ⟨by simp [h1]; omega, hm, .inr ⟨b, off, c, fr, e, hF, hh, hU, hs, ?_⟩⟩, hS, hd, hu⟩, r⟩
    rw [hadd, List.take_add, hc]
theorem St.conv {A B : Asn} (h : ∀ w F, A.at_ w F → B.at_ w F) : St g w (A :: L) → St g w (B :: L)
  | ⟨F, ⟨F1, F2, h1, h2⟩, r⟩ => ⟨F, ⟨F1, F2, h w F1 h1, h2⟩, r⟩
theorem run_append_mk {T U E sz by_ nn i m cap : Nat} {z : List Value} {kk : IntKind} {ao : Option Addr} {cells : List Value} {ty : TypeId} [TSl P T E sz] [TEl P E sz by_ z]
    (hU : P.underlying U = some (.int kk)) (H : St g w (own ao cap E sz nn cells :: L)) (hi : i ≤ nn) (hg : ¬ i + m ≤ cap) (hb : (i + m) * by_ ≤ 140737488355328) (hm : i + m ≤ maxLen) (hpos : 0 < m) :
    ∃ b cap' w' junk, (Builtin.append_ #[T, U] ty #[.slice ao i cap, .int .i64 (m : Nat)]).run P w = .ok (.slice (some ⟨b, 0, none⟩) (i + m) cap') w' ∧ junk.length = m * sz ∧
      St g w' (own (some ⟨b, 0, none⟩) cap' E sz (i + m) (cells.take (i * sz) ++ junk) :: own ao cap E sz nn cells :: L) := by
  obtain ⟨inf, v, hi', hsz, hby, hz, hv⟩ := TEl.out (P := P) (E := E)
  have hzl := TEl.len (P := P) (E := E)
  have hp := TEl.pos (P := P) (E := E)
  obtain ⟨F, hF⟩ := H.nth (k := 0) rfl
  have hrd := own_rd hF
  obtain ⟨hF1, hF2, hF3⟩ := hF
  subst hsz hby
  have hT := TSl.out (P := P) (T := T)
  have w1 : IntKind.i64.wrap (m : Int) = m := wi64 (by simp only [maxLen] at hm; omega)
  have hcs : ∀ w' : World, w'.heap = w.heap → (Builtin.firstCells inf.size i (.slice ao i cap)).run P w' = .ok (cells.take (i * inf.size)).toArray w' := by
    intro w' hw
    have := (src_rd (P := P) (c := cap) (A := own ao cap E inf.size nn cells) (F := F) ⟨hF1, hF2, hF3⟩ hrd hF1).2.2 i hi w' hw
    cases ao <;> exact this
  have h1 := growslice_fits (bytes := inf.bytes) (show cap < i + m by omega) hb
  have h63 : ¬ (9223372036854775807 < ((i : Int) + (m : Int))) := by simp only [maxLen] at hm; omega
  have h2 := hcs w.drew rfl
  have hbm : ¬ (281474976710656 < (m : Int) * (inf.bytes : Int)) := by
    have : m * inf.bytes ≤ (i + m) * inf.bytes := Nat.mul_le_mul_right _ (by omega)
    have h : ((m * inf.bytes : Nat) : Int) = (m : Int) * (inf.bytes : Int) := by push_cast; rfl
    omega
  have hn0 : ¬ (m = 0) := by omega
  have hs0 : ¬ (inf.size = 0) := by omega
  have hge := grownCap_ge w (i + m) cap E
  refine ⟨w.heap.size, grownCap w (i + m) cap E, w.drew.alloc (.cells ((cells.take (i * inf.size)).toArray ++ Builtin.zeroCells v.cells m ++ Builtin.zeroCells v.cells (grownCap w (i + m) cap E - (i + m))) E), (Builtin.zeroCells v.cells m).toList, ?_, ?_, ?_⟩
  · simp [Builtin.append_, run_underlying hT, run_underlying hU, sizeOf, typeInfo, zeroValue, hi', hz, hg, h63, Nat.not_lt.2 h1, Question.forced, grownCap, h2, newRow, IntKind.max, IntKind.bits, IntKind.signed, w1, hbm, hn0, hs0, asInt, asIntOf, show ¬ ((m : Int) < 0) by omega, show ¬ (m * inf.size = 0) by (intro h; rcases Nat.mul_eq_zero.1 h with h | h <;> omega)]
  · simp [zeroCells_size, hv, hzl]
  · obtain ⟨arr, harr⟩ : ∃ arr, (cells.take (i * inf.size)).toArray ++ Builtin.zeroCells v.cells m ++ Builtin.zeroCells v.cells (grownCap w (i + m) cap E - (i + m)) = arr := ⟨_, rfl⟩
    have hl : (cells.take (i * inf.size)).length = i * inf.size := by rw [List.length_take, hF1, Nat.min_eq_left (Nat.mul_le_mul_right _ hi)]
    have key : ∀ w' F', (obj w.heap.size (.cells arr E)).at_ w' F' → (own (some ⟨w.heap.size, 0, none⟩) (grownCap w (i + m) cap E) E inf.size (i + m) (cells.take (i * inf.size) ++ (Builtin.zeroCells v.cells m).toList)).at_ w' F' := by
      intro w' F' ⟨hF', hh⟩
      refine ⟨?_, hge, .inr ⟨w.heap.size, 0, _, (0, 0), rfl, hF', hh, .inl (Nat.le_refl _), ?_, ?_⟩⟩
      · simp [zeroCells_size, hv, hzl, hl, Nat.add_mul]
      · rw [← harr]; simp only [Array.size_append, List.size_toArray, zeroCells_size, hv, hzl, hl]
        rw [← Nat.add_mul, ← Nat.add_mul, Nat.zero_add]; exact Nat.mul_le_mul_right _ (by omega)
      · rw [← harr]
        simp only [List.drop_zero, Array.toList_append]
        rw [List.take_append_of_le_length (by simp [hl, zeroCells_size, hv, hzl, Nat.add_mul])]
        exact List.take_of_length_le (by simp [hl, zeroCells_size, hv, hzl, Nat.add_mul])
    rw [harr]
    exact St.conv key (H.drew.alloc (.cells arr E))
theorem xapm {T U E sz by_ nn i m cap : Nat} {z : List Value} {kk : IntKind} {x y : Operand} {ao : Option Addr} {cells : List Value} {mi : Int} [TSl P T E sz] [TEl P E sz by_ z]
    (hU : P.underlying U = some (.int kk)) (k : Nat) (H : St g w L) (hk : takeAt k L = some (own ao cap E sz nn cells, M)) (hx : ev n ρ x = some (.slice ao i cap)) (hy : ev n ρ y = some (.int .i64 mi)) (em : mi = (m : Nat))
    (hi : i ≤ nn) (hg : ¬ i + m ≤ cap) (hb : (i + m) * by_ ≤ 140737488355328) (hm : i + m ≤ maxLen) (hpos : 0 < m)
    (h : ∀ b cap' w' junk, junk.length = m * sz → St g w' (own (some ⟨b, 0, none⟩) cap' E sz (i + m) (cells.take (i * sz) ++ junk) :: own ao cap E sz nn cells :: M) → wpList P ops Q rest (mk n (upd ρ d (.slice (some ⟨b, 0, none⟩) (i + m) cap')) ds) w') :
    wpList P ops Q (⟨some d, .call { callee := .builtin .append, args := #[x, y], argTypes := #[T, U] }, ty, pos, af, none⟩ :: rest) (mk n ρ ds) w := by
  subst em
  obtain ⟨b, cap', w', junk, hr, hj, hS⟩ := run_append_mk (P := P) (T := T) (U := U) (ty := ty) hU (H.front k hk) hi hg hb hm hpos
  exact st_val (run_bi_append hx hy hr) (h b cap' w' junk hj hS)
theorem own_some {ao : Option Addr} {cap E sz nn : Nat} {cells : List Value} (H : St g w (own ao cap E sz nn cells :: L)) (hc : 0 < cap) : ∃ b off, ao = some ⟨b, off, none⟩ := by
  obtain ⟨F, hF⟩ := H.nth (k := 0) rfl
  obtain ⟨b, off, _, _, e, _⟩ := hF.2.2.resolve_left (fun h => by omega)
  exact ⟨b, off, e⟩
theorem xovl {T R E sz by_ nn cap : Nat} {z : List Value} {f : FuncId} {fn : Func} {xs : List Operand} {ats : Array TypeId} {c1 cells : List Value} {E1 b1 b2 off o2 la ca lb cb : Nat} [TSl P T E sz] [TEl P E sz by_ z]
    (hf : P.funcs[f]? = some fn) (hname : (fn.name == "runtime.NumGoroutine") = false) (hb : fn.body.isNone = true) (hn : Extern.findNext fn = none) (he : Extern.find fn = some (Extern.SlicesOverlaps.overlaps #[T, T] #[R]))
    {fv : Operand} (hfv : ev n ρ fv = some (.func (.func f) #[] #[])) (ha : evl n ρ xs = some [.slice (some ⟨b1, 0, none⟩) la ca, .slice (some ⟨b2, o2, none⟩) lb cb])
    (ks : List Nat) (H : St g w L) (hk : pick ks L = some ([blk b1 c1 E1, own (some ⟨b2, off, none⟩) cap E sz nn cells], M)) (hc : 0 < cap)
    (h : wpList P ops Q rest (mk n (upd ρ d (.bool false)) ds) w) : wpList P ops Q (⟨some d, .call { callee := .value fv, args := xs.toArray, argTypes := ats }, ty, pos, af, none⟩ :: rest) (mk n ρ ds) w := by
  obtain ⟨inf, v, hi', hsz, hby, hz, hv⟩ := TEl.out (P := P) (E := E)
  have hp := TEl.pos (P := P) (E := E)
  have H1 := H.pick ks hk
  obtain ⟨F, ⟨F1, F2, h1, ⟨F3, F4, h3, h4, hd', hu'⟩, hd, hu⟩, _⟩ := H1
  obtain ⟨b, off', c, fr, e, hFb, hh, hU, hs, _⟩ := h3.2.2.resolve_left (fun h => by omega)
  simp only [Option.some.injEq, Addr.mk.injEq, and_true] at e
  obtain ⟨rfl, rfl⟩ := e
  have hne : b1 ≠ b2 := fun e => hd b1 ((h1.1 b1).2 rfl) ((hu' b1).2 (.inl ((hFb b1).2 e)))
  have hcs : c.size ≠ 0 := by
    have : 0 < cap * sz := Nat.mul_pos hc hp
    omega
  have hv := Lib.run_overlaps_apart w T R E (TSl.out (P := P) (T := T)) inf.size (fun w => by simp [sizeOf, typeInfo, hi']) ⟨b1, 0, none⟩ ⟨b2, o2, none⟩ la ca lb cb hne E1 E c1.length c.size
    (by simp [World.shape?, h1.2]) (by simp [World.shape?, hh]) hcs (by simp [World.frozen?, h1.2]) (by simp [World.frozen?, h1.2])
  refine st_val ?_ h
  have e1 := mk_evl (ds := ds) ha
  have h1 := run_callFunc_extern hf hname hb hn he #[.slice (some ⟨b1, 0, none⟩) la ca, .slice (some ⟨b2, o2, none⟩) lb cb] w
  simp only [execOp, resolve, mk_eval hfv, Sem.run_bind]
  simp [invoke, Deferred.ofValue, e1, h1, hv]
end
end Go.Proofs.YtegllbmkkfnajaaGreatDoor
end
section
namespace Go.Proofs.YtegllbmkkfnajaaGreatDoor
open Go Go.Proofs
attribute [local irreducible] Go.wpList Go.Code.wp St Fn mk
set_option maxRecDepth 20000
theorem subA_at {b off cap l sz : Nat} (h : l < cap) : subA (some ⟨b, off, none⟩) cap l sz = some ⟨b, off + l * sz, none⟩ := by
  unfold subA; rw [if_neg (by omega)]; simp [Addr.add]
  try (intro h; omega)
theorem blk_all (b : Nat) (c : List Value) (E : Nat) : Cells (blk b c E) b 0 c := fun j v hv => by rw [Nat.zero_add]; exact blk_cell (by rw [nthV_eq]; exact hv)
theorem ins_c1 {A new junk : List Value} {i m : Nat} (hA : A.length = i * 7) (hl : new.length = 7) (hm : 0 < m) : (A ++ junk).take (i * 7) ++ new.take (min 1 m * 7) ++ (A ++ junk).drop (i * 7 + (new.take (min 1 m * 7)).length) = A ++ new ++ junk.drop 7 := by
  rw [show min 1 m = 1 by omega, List.take_of_length_le (l := new) (by omega), hl, List.take_left' hA, List.drop_append, List.drop_of_length_le (by omega), List.nil_append, show i * 7 + 7 - A.length = 7 by omega]
theorem ins_c2 {A new B J : List Value} {i m k : Nat} (hA : A.length = i * 7) (hl : new.length = 7) (hB : B.length = m * 7) (hJ : J.length = m * 7) (hk : m ≤ k) : (A ++ new ++ J).take ((i + 1) * 7) ++ B.take (min m k * 7) ++ (A ++ new ++ J).drop ((i + 1) * 7 + (B.take (min m k * 7)).length) = A ++ new ++ B := by
  rw [show min m k = m by omega, List.take_of_length_le (l := B) (by omega), List.take_left' (by rw [List.length_append, hA, hl, Nat.add_mul]), List.drop_of_length_le (by simp only [List.length_append]; omega), List.append_nil]
theorem ins_c3 {A B J : List Value} {i m p k : Nat} (hA : A.length = i * 7) (hB : B.length = m * 7) (hm : 0 < m) (hJ : J.length = 7) (hk : k = m) (hp : m ≤ p) : (A ++ B ++ J).take ((i + 1) * 7) ++ ((A ++ B ++ J).drop (i * 7)).take (min p k * 7) ++ (A ++ B ++ J).drop ((i + 1) * 7 + (((A ++ B ++ J).drop (i * 7)).take (min p k * 7)).length) = A ++ B.take 7 ++ B := by
  subst hk
  have e1 : (A ++ B ++ J).drop (i * 7) = B ++ J := by rw [List.append_assoc, List.drop_left' hA]
  have e2 : (A ++ B ++ J).take ((i + 1) * 7) = A ++ B.take 7 := by
    rw [List.append_assoc, List.take_append, List.take_of_length_le (by omega), show (i + 1) * 7 - A.length = 7 by omega, List.take_append, show 7 - B.length = 0 by omega, List.take_zero, List.append_nil]
  rw [e1, e2, show min p k = k by omega, List.take_left' hB, List.drop_of_length_le (by simp only [List.length_append]; omega), List.append_nil]
theorem ins_c4 {A H B new : List Value} {i m : Nat} (hA : A.length = i * 7) (hH : H.length = 7) (hl : new.length = 7) (hm : 0 < m) : (A ++ H ++ B).take (i * 7) ++ new.take (min 1 m * 7) ++ (A ++ H ++ B).drop (i * 7 + (new.take (min 1 m * 7)).length) = A ++ new ++ B := by
  have e1 : (A ++ H ++ B).drop (i * 7 + 7) = B := List.drop_left' (by rw [List.length_append, hA, hH])
  rw [show min 1 m = 1 by omega, List.take_of_length_le (l := new) (by omega), hl, e1, List.append_assoc A H B, List.take_left' hA]
theorem c_insert (ao : Option Addr) (cap n i b : Nat) (cells new : List Value) (hi : i ≤ n) (hn : n < 1099511627776) (hl : new.length = 7) (h1 : ∀ v ∈ new, v.oneCell' = true) (h2 : ∀ v ∈ cells, v.oneCell' = true) :
    Fn Tryz.prog 79 [.slice ao n cap, .int .i64 i, .slice (some ⟨b, 0, none⟩) 1 1] [own ao cap acctT 7 n cells, blk b new acctT]
      (Ret fun v L => ∃ ao' cap', v = .slice ao' (n + 1) cap' ∧ L = [own ao' cap' acctT 7 (n + 1) (cells.take (i * 7) ++ new ++ cells.drop (i * 7))]) := by
  refine Fn.intro Tryz.call79 Tryz.func79 rfl Tryz.ntmps79 rfl ?_; intro g w Q hQ H
  have hcl := H.ownLen
  refine sq ?_; intro K1 hK1; refine wp_region_lit ?_; refine xas rfl ?_; refine wpList_nil ?_; refine tn ?_; refine hK1 _ _ ?_; clear hK1 K1
  refine sq ?_; intro K2 hK2; refine wp_region_lit ?_; refine xmv rfl ?_; refine xmv rfl ?_
  refine xsl1 (l := i) rfl rfl rfl hi ?_
  refine wpList_nil ?_; refine tn ?_; refine hK2 _ _ ?_; clear hK2 K2; refine sq ?_; intro K3 hK3; refine wp_region_lit ?_; refine xmv rfl ?_; refine xli rfl ?_
  refine xas rfl ?_; refine wpList_nil ?_; refine tn ?_; refine hK3 _ _ ?_; clear hK3 K3; refine sq ?_; intro K4 hK4; refine sq ?_; intro K5 hK5
  refine wp_region_lit ?_; refine xmv rfl ?_; refine xeq rfl rfl ?_; refine wpList_nil ?_; refine tn ?_; refine hK5 _ _ ?_; clear hK5 K5; refine iff_ rfl ?_
  refine wp_skip ?_; refine tn ?_; refine hK4 _ _ ?_; clear hK4 K4; refine sq ?_; intro K6 hK6; refine wp_region_lit ?_; refine xmv rfl ?_; refine xli rfl ?_
  refine xas rfl ?_; refine wpList_nil ?_; refine tn ?_; refine hK6 _ _ ?_; clear hK6 K6; refine sq ?_; intro K7 hK7; refine sq ?_; intro K8 hK8
  refine wp_region_lit ?_; refine xmv rfl ?_; refine xmv rfl ?_; refine xeq rfl rfl ?_; refine wpList_nil ?_; refine tn ?_; refine hK8 _ _ ?_; clear hK8 K8
  refine if_ rfl (fun k1 => ?_) (fun k1 => ?_)
  · have k1 : i = n := by have := of_decide_eq_true k1; omega
    subst k1
    refine sq ?_; intro K9 hK9; refine wp_region_lit ?_; refine xmv rfl ?_; refine xmv rfl ?_
    refine xap 0 H rfl rfl rfl (src_at (news := new) 1 H rfl ⟨rfl, blk_all b new acctT⟩ hl) h1 (by omega) (by simp only [maxLen]; omega) ?_; intro ao25 cap25 w H hn25
    refine xas rfl ?_; refine wpList_nil ?_; refine tn ?_; refine hK9 _ _ ?_; clear hK9 K9; refine wp_ret ?_; refine tr ?_; clear hK7 K7
    replace H := H.keeps [0] rfl; refine hQ _ _ _ ?_; refine r1 rfl rfl H ?_
    exact ⟨_, _, rfl, by rw [List.take_of_length_le (by omega), List.drop_of_length_le (by omega), List.append_nil]⟩
  · have k1 : i < n := by have := of_decide_eq_false k1; omega
    refine wp_skip ?_; refine tn ?_; refine hK7 _ _ ?_; clear hK7 K7; refine sq ?_; intro K9 hK9; refine sq ?_; intro K10 hK10; refine wp_region_lit ?_
    refine xmv rfl ?_; refine xmv rfl ?_
    refine xadi rfl rfl (wi64 (by omega)) ?_
    refine xmv rfl ?_; refine xcp rfl ?_; refine xgt rfl rfl ?_; refine wpList_nil ?_; refine tn ?_; refine hK10 _ _ ?_; clear hK10 K10
    refine if_ rfl (fun k2 => ?_) (fun k2 => ?_)
    · have k2 : cap < n + 1 := by have := of_decide_eq_true k2; omega
      refine sq ?_; intro K11 hK11; refine wp_region_lit ?_; refine xmv rfl ?_; refine xmv rfl ?_
      refine xsl0 (h := i) rfl rfl rfl (by omega) ?_
      refine xmv rfl ?_; refine xmv rfl ?_
      refine xadi rfl rfl (wi64 (by omega)) ?_
      refine xmv rfl ?_
      refine xsbi rfl rfl (wi64 (by omega)) ?_
      refine xapm (kk := .i64) (i := i) (m := n + 1 - i) (by kernel_rfl) 0 H rfl rfl rfl (by omega) (by omega) (by omega) (by omega) (by simp only [maxLen]; omega) (by omega) ?_; intro b40 cap40 w junk hj H
      rw [show i + (n + 1 - i) = n + 1 by omega] at H ⊢
      have hc4 := H.ownLen
      have hA : (cells.take (i * 7)).length = i * 7 := by rw [List.length_take]; omega
      have hB : (cells.drop (i * 7)).length = (n - i) * 7 := by rw [List.length_drop]; omega
      have hd1 : subA (some ⟨b40, 0, none⟩) cap40 i 7 = some ⟨b40, 0 + i * 7, none⟩ := subA_at (by omega)
      have hd2 : subA (some ⟨b40, 0, none⟩) cap40 (i + 1) 7 = some ⟨b40, 0 + (i + 1) * 7, none⟩ ∨ n - i = 0 := .inl (subA_at (by omega))
      refine xas rfl ?_; refine wpList_nil ?_; refine tn ?_; refine hK11 _ _ ?_; clear hK11 K11; refine sq ?_; intro K12 hK12; refine wp_region_lit ?_
      refine xmv rfl ?_; refine xmv rfl ?_
      refine xsl1 (l := i) rfl rfl rfl (by omega) ?_
      refine xmv rfl ?_
      refine xcpo (m := 1) (news := new) (dl := n + 1 - i) 0 i H rfl rfl rfl (src_at 2 H rfl ⟨rfl, blk_all b new acctT⟩ hl) (fun v hv => h1 v (List.mem_of_mem_take hv)) (by omega) (.inr ⟨b40, 0, rfl, hd1⟩) ?_; intro w H
      refine wpList_nil ?_; refine tn ?_; refine hK12 _ _ ?_; clear hK12 K12; refine sq ?_; intro K13 hK13; refine drwt (m := 9) rfl rfl H ?_; clear H; intro w H
      refine dt' 0 rfl (by kernel_rfl) True.intro (ymv rfl) ?_; refine dt' 1 rfl (by kernel_rfl) True.intro (ymv rfl) ?_
      refine dt' 2 rfl (by kernel_rfl) True.intro (ymv rfl) ?_
      refine dt' 3 rfl (by kernel_rfl) True.intro (yadi rfl rfl (wi64 (by omega))) ?_
      refine dt' 5 rfl (by kernel_rfl) True.intro (ymv rfl) ?_; refine dt' 6 rfl (by kernel_rfl) True.intro (ymv rfl) ?_
      refine dt' 4 rfl (by kernel_rfl) True.intro (ysl1 (l := i + 1) rfl rfl (by push_cast; rfl) (by omega)) ?_
      refine do1 7 rfl (by kernel_rfl) ?_; intro K14 hK14
      refine xsl1 (l := i) rfl rfl rfl hi ?_
      refine wpList_nil ?_; refine tn ?_; refine hK14 _ _ (fun _ => True.intro) ?_; clear hK14 K14; refine do1 8 rfl (by kernel_rfl) ?_; intro K15 hK15
      have hsrc := ((H.front 1 rfl).ownRd).sub (cap := cap) (nn := n) (sz := 7) hcl.1 hcl.2 i n (Nat.le_refl _)
      rw [List.take_of_length_le (by omega)] at hsrc
      rw [ins_c1 hA hl (by omega)] at H
      refine xcpo (m := n - i) (news := cells.drop (i * 7)) (dl := n + 1 - (i + 1)) 0 (i + 1) H rfl rfl rfl (src_at 1 H rfl hsrc hB) (fun v hv => h2 v (List.mem_of_mem_drop (List.mem_of_mem_take hv))) (by omega) (.inr ⟨b40, 0, rfl, subA_at (by omega)⟩) ?_; intro w H
      rw [ins_c2 hA hl hB (by rw [List.length_drop, hj]; omega) (by omega)] at H
      refine wpList_nil ?_; refine tn ?_; refine hK15 _ _ (fun _ => True.intro) ?_; clear hK15 K15; refine dd (by kernel_rfl) ?_
      refine tn ?_; refine hK13 _ _ ?_; clear hK13 K13; refine sq ?_; intro K16 hK16; refine wp_region_lit ?_; refine xmv rfl ?_; refine xas rfl ?_
      refine wpList_nil ?_; refine tn ?_; refine hK16 _ _ ?_; clear hK16 K16; refine wp_ret ?_; refine tr ?_; clear hK9 K9
      replace H := H.keeps [0] rfl; refine hQ _ _ _ ?_; refine r1 rfl rfl H ?_
      exact ⟨_, _, rfl, rfl⟩
    · have k2 : n + 1 ≤ cap := by have := of_decide_eq_false k2; omega
      obtain ⟨junk, hj, H⟩ := H.ownExt 1 k2
      obtain ⟨b2, o2, rfl⟩ := own_some H (by omega)
      refine wp_skip ?_; refine tn ?_; refine hK9 _ _ ?_; clear hK9 K9; refine sq ?_; intro K11 hK11; refine wp_region_lit ?_; refine xmv rfl ?_; refine xmv rfl ?_
      refine xmv rfl ?_
      refine xadi rfl rfl (wi64 (by omega)) ?_
      refine xsl0 (h := n + 1) rfl rfl (by push_cast; rfl) k2 ?_
      refine xas rfl ?_; refine wpList_nil ?_; refine tn ?_; refine hK11 _ _ ?_; clear hK11 K11; refine sq ?_; intro K12 hK12; refine sq ?_; intro K13 hK13
      refine wp_region_lit ?_; refine xmv rfl ?_; refine xmv rfl ?_; refine xmv rfl ?_; refine xmv rfl ?_
      refine xadi rfl rfl (wi64 (by omega)) ?_
      refine xsl1 (l := i + 1) rfl rfl (by push_cast; rfl) (by omega) ?_
      rw [subA_at (show i + 1 < cap by omega)]
      refine xovl (R := 4) Tryz.func113 rfl rfl rfl rfl rfl rfl [1, 0] H rfl (by omega) ?_
      have hA : (cells.take (i * 7)).length = i * 7 := by rw [List.length_take]; omega
      have hB : (cells.drop (i * 7)).length = (n - i) * 7 := by rw [List.length_drop]; omega
      obtain ⟨A, hAe⟩ : ∃ A, cells.take (i * 7) = A := ⟨_, rfl⟩
      obtain ⟨B, hBe⟩ : ∃ B, cells.drop (i * 7) = B := ⟨_, rfl⟩
      have hce : cells = A ++ B := by rw [← hAe, ← hBe, List.take_append_drop]
      rw [hAe] at hA; rw [hBe] at hB
      rw [hce] at H
      refine xnt rfl ?_; refine wpList_nil ?_; refine tn ?_; refine hK13 _ _ ?_; clear hK13 K13; refine ift rfl ?_; refine sq ?_; intro K14 hK14
      refine drwt (m := 9) rfl rfl H ?_; clear H; intro w H; refine dt' 0 rfl (by kernel_rfl) True.intro (ymv rfl) ?_
      refine dt' 1 rfl (by kernel_rfl) True.intro (ymv rfl) ?_; refine dt' 2 rfl (by kernel_rfl) True.intro (ymv rfl) ?_
      refine dt' 3 rfl (by kernel_rfl) True.intro (yadi rfl rfl (wi64 (by omega))) ?_
      refine dt' 5 rfl (by kernel_rfl) True.intro (ymv rfl) ?_; refine dt' 6 rfl (by kernel_rfl) True.intro (ymv rfl) ?_
      refine dt' 4 rfl (by kernel_rfl) True.intro (ysl1 (l := i + 1) rfl rfl (by push_cast; rfl) (by omega)) ?_
      refine do1 7 rfl (by kernel_rfl) ?_; intro K15 hK15
      refine xsl1 (l := i) rfl rfl rfl (by omega) ?_
      have hsrc := H.ownRd.sub (cap := cap) (nn := n + 1) (sz := 7) H.ownLen.1 k2 i (n + 1) (Nat.le_refl _)
      rw [List.take_of_length_le (by rw [List.length_drop, H.ownLen.1]; omega)] at hsrc
      refine wpList_nil ?_; refine tn ?_; refine hK15 _ _ (fun _ => True.intro) ?_; clear hK15 K15; refine do1 8 rfl (by kernel_rfl) ?_; intro K16 hK16
      refine xcpo (m := n + 1 - i) (news := (A ++ B ++ junk).drop (i * 7)) (dl := n + 1 - (i + 1)) 0 (i + 1) H rfl rfl rfl (src_at 0 H rfl hsrc (by rw [List.length_drop, H.ownLen.1]; omega)) (fun v hv => h2 v (by rw [show min (n + 1 - i) (n + 1 - (i + 1)) = n - i by omega, List.append_assoc, List.drop_left' hA, List.take_left' hB] at hv; rw [hce]; exact List.mem_append_right _ hv)) (by omega) (.inr ⟨b2, o2, rfl, subA_at (by omega)⟩) ?_; intro w H
      rw [ins_c3 hA hB (by omega) (by omega) (by omega) (by omega)] at H
      refine wpList_nil ?_; refine tn ?_; refine hK16 _ _ (fun _ => True.intro) ?_; clear hK16 K16; refine dd (by kernel_rfl) ?_
      refine tn ?_; refine hK14 _ _ ?_; clear hK14 K14; refine sq ?_; intro K17 hK17; refine wp_region_lit ?_; refine xmv rfl ?_; refine xmv rfl ?_
      refine xsl1 (l := i) rfl rfl rfl (by omega) ?_
      refine xmv rfl ?_
      refine xcpo (m := 1) (news := new) (dl := n + 1 - i) 0 i H rfl rfl rfl (src_at 1 H rfl ⟨rfl, blk_all b new acctT⟩ hl) (fun v hv => h1 v (List.mem_of_mem_take hv)) (by omega) (.inr ⟨b2, o2, rfl, subA_at (by omega)⟩) ?_; intro w H
      rw [ins_c4 hA (by rw [List.length_take]; omega) hl (by omega)] at H
      refine wpList_nil ?_; refine tn ?_; refine hK17 _ _ ?_; clear hK17 K17; refine sq ?_; intro K18 hK18; refine wp_region_lit ?_; refine xmv rfl ?_
      refine xas rfl ?_; refine wpList_nil ?_; refine tn ?_; refine hK18 _ _ ?_; clear hK18 K18; refine wp_ret ?_; refine tr ?_; clear hK12 K12
      replace H := H.keeps [0] rfl; refine hQ _ _ _ ?_; refine r1 rfl rfl H ?_
      exact ⟨_, _, rfl, by rw [hAe, hBe]⟩
end Go.Proofs.YtegllbmkkfnajaaGreatDoor
end
section
namespace Go.Proofs.YtegllbmkkfnajaaGreatDoor
open Go Go.Proofs
attribute [local irreducible] Go.wpList Go.Code.wp St Fn mk
set_option maxRecDepth 20000
def roomFor (l : List Acct) (t : List UInt8) : List Acct := if placeB l t = true then l else l.take (placeK l t) ++ newA t :: l.drop (placeK l t)
def ledgerCome (l : Ledg) (r : Rec) : Ledg := ⟨r.seq, (roomFor l.l r.tenant).set (placeK l.l r.tenant) (acctApply (l.find r.tenant) r)⟩
theorem placeK_le (l : List Acct) (t : List UInt8) : placeK l t ≤ l.length := bsF_le _ _ _ _ (Nat.zero_le _)
theorem roomFor_at (l : Ledg) (t : List UInt8) : (roomFor l.l t)[placeK l.l t]? = some (l.find t) := by
  unfold roomFor Ledg.find
  by_cases h : placeB l.l t = true
  · rw [if_pos h, if_pos h]; have := placeB_lt h; unfold acctAt; rw [List.getElem?_eq_getElem this]
  · rw [if_neg h, if_neg h]
    have := placeK_le l.l t
    rw [List.getElem?_append_right (by rw [List.length_take]; omega), List.length_take, show placeK l.l t - min (placeK l.l t) l.l.length = 0 by omega]; rfl
def comeC (μ : Mem) (l : Ledg) (r : Rec) (b2 b3 b4 : Nat) (ps : List AcctP) (ao : Option Addr) (cap : Nat) : List Asn :=
  [blk b2 [.int .u64 l.seq, .slice ao ps.length cap] ledT, own ao cap acctT 7 ps.length (acctsV ps), imm μ, blk b3 (recV r) recT, blk b4 [.int .u64 0, .slice none 0 0] ledT]
theorem acctsV_one (ps : List AcctP) : ∀ v ∈ acctsV ps, v.oneCell' = true := by
  intro v hv; obtain ⟨p, _, h⟩ := List.mem_flatMap.1 hv; exact AcctP.one p v h
theorem c_aapply_ok {A : Asn} (hT : Tab A) {a : Acct} {lo : Option Addr} {lc : Nat} {co : Option Addr} {cc : Nat} {r : Rec} (ha : a.ok) (hnl : a.leases.length < 1099511627776) (hnc : a.closed.length < 1099511627776) (hrk : r.ok) (hr : AcctR A a lo lc co cc) (hc : acctCheck a r = 0) :
    Fn Tryz.prog 80 [.agg (acctV a lo lc co cc).toArray, .agg (recV r).toArray] [A] (Ret fun v L => ∃ lo' lc' co' cc', v = .tuple #[.agg (acctV (acctApply a r) lo' lc' co' cc').toArray, .int .i64 0] ∧
      L = [own lo' lc' leaseT 2 (acctApply a r).leases.length (leasesV (acctApply a r).leases), own co' cc' stmtT 6 (acctApply a r).closed.length (closedV (acctApply a r).closed), A]) :=
  (c_aapply A hT a lo lc co cc r ha hnl hnc hrk hr).mono fun e L ⟨v, e1, h⟩ => ⟨v, e1, by unfold acctR at h; rwa [if_pos hc] at h⟩
theorem pdue_lt {n b : Nat} (hn : n < 18446744073709551616) (hb : b < 18446744073709551616) : pdue n b < 18446744073709551616 := by
  have hm := (fParts_bd b hb).1
  have hq1 : n * (fParts b).1 / 18446744073709551616 < 18446744073709551616 := Nat.div_lt_of_lt_mul (Nat.mul_lt_mul_of_lt_of_lt hn hm)
  have hq2 : n * (fParts b).1 % 18446744073709551616 < 18446744073709551616 := Nat.mod_lt _ (by decide)
  have hsh : ∀ x s : Nat, x < 18446744073709551616 → x >>> s < 18446744073709551616 := fun x s hx => by rw [Nat.shiftRight_eq_div_pow]; exact Nat.lt_of_le_of_lt (Nat.div_le_self _ _) hx
  unfold pdue
  simp only
  split
  · unfold pdown
    split
    · exact hsh _ _ hq1
    split
    · decide
    · exact Nat.or_lt_two_pow (n := 64) (Nat.mod_lt _ (by decide)) (hsh _ _ hq2)
  · unfold pup
    split
    · decide
    split
    · decide
    · exact Nat.mod_lt _ (by decide)
theorem acctApply_ok {a : Acct} {r : Rec} (ha : a.ok) (hr : r.ok) (hnl : a.leases.length < 1099511627776) (hnc : a.closed.length < 1099511627776) (hc : acctCheck a r = 0) : (acctApply a r).ok := by
  have hp := fun h5 => acctCheck_close hc h5
  have hm : ∀ b, (∀ l ∈ b, Lease.ok l) → ∀ k, ∀ l ∈ List.eraseIdx b k, Lease.ok l := fun b hb k l hl => hb l (List.mem_of_mem_eraseIdx hl)
  unfold acctApply
  split
  · exact ⟨hr.n, ha.used, ha.bits, ha.period, ha.leases, ha.closed, ha.nl, ha.nc⟩
  split
  · exact ⟨ha.cap, ha.used, hr.bits, ha.period, ha.leases, ha.closed, ha.nl, ha.nc⟩
  split
  · refine ⟨ha.cap, ha.used, ha.bits, ha.period, ?_, ha.closed, by simp; omega, ha.nc⟩
    intro l hl
    rcases List.mem_append.1 hl with hl | hl
    · exact ha.leases l hl
    · rw [List.mem_singleton] at hl; subst hl; exact ⟨hr.lease, hr.n⟩
  split
  · exact ⟨ha.cap, padd_lt ha.used hr.n, ha.bits, ha.period, hm _ ha.leases _, ha.closed, Nat.le_trans (List.length_eraseIdx_le _ _) ha.nl, ha.nc⟩
  split
  · rename_i h5
    refine ⟨ha.cap, by simp, ha.bits, by have := hp h5; simp; omega, ha.leases, ?_, ha.nl, by simp; omega⟩
    intro s hs
    rcases List.mem_append.1 hs with hs | hs
    · exact ha.closed s hs
    · rw [List.mem_singleton] at hs; subst hs
      refine ⟨ha.period, ha.used, ha.cap, ha.bits, ?_⟩
      unfold stmtOf dueOf; simp only; split
      · exact pdue_lt ha.used ha.bits
      · decide
  · exact ha
theorem acctsV_set (ps : List AcctP) (k : Nat) (q : AcctP) (hk : k < ps.length) : (acctsV ps).take (k * 7) ++ q.v ++ (acctsV ps).drop (k * 7 + q.v.length) = acctsV (ps.set k q) := by
  have h1 := flat_take AcctP.len ps k
  have h2 := flat_drop AcctP.len ps (k + 1)
  unfold acctsV
  rw [h1, show k * 7 + q.v.length = (k + 1) * 7 by rw [AcctP.len]; omega, h2, List.set_eq_take_append_cons_drop, if_pos hk]; simp
theorem c_come (μ : Mem) (hT : Tab (imm μ)) (l : Ledg) (ps : List AcctP) (ao : Option Addr) (cap : Nat) (r : Rec) (he : accts ps = l.l) (hA : AcctsR (imm μ) ps) (hs : l.seq < 18446744073709551616) (hn : l.l.length < 1099511627776) (hrk : r.ok)
    (hsm : ∀ a ∈ l.l, a.leases.length < 1099511627776 ∧ a.closed.length < 1099511627776) (hc : acctCheck (l.find r.tenant) r = 0) :
    Fn Tryz.prog 53 [.agg (ledV l ao cap).toArray, .agg (recV r).toArray] [own ao cap acctT 7 l.l.length (acctsV ps), imm μ] (Ret (ledO μ (ledgerCome l r))) := by
  have hpl : ps.length = l.l.length := by rw [← he]; simp
  have hpc := fun A hr => c_place A ps l.seq ao cap r.tenant hr (by omega)
  rw [hpl, he] at hpc
  have hk := placeK_le l.l r.tenant
  have hat := roomFor_at l r.tenant
  refine Fn.intro Tryz.call53 Tryz.func53 rfl Tryz.ntmps53 rfl ?_; intro g w Q hQ H
  refine sq ?_; intro K1 hK1; refine wp_region_lit ?_; refine xbx H rfl rfl ?_; intro b2 w H; refine xbx H rfl rfl ?_; intro b3 w H; refine xal H ?_; intro b4 w H
  refine wpList_nil ?_; refine tn ?_; refine hK1 _ _ ?_; clear hK1 K1; refine sq ?_; intro K2 hK2; refine wp_region_lit ?_
  refine xldab 2 H rfl rfl rfl rfl ?_
  refine xfa rfl ?_
  refine xldb 1 H rfl rfl rfl ?_
  refine xc [3] H ((hpc (own ao cap acctT 7 l.l.length (acctsV ps)) (H.front 3 rfl).ownRd)) rfl rfl rfl rfl rfl ?_; rintro _ _ w ⟨rfl, rfl⟩ H; replace H := H.ap rfl
  refine xmv rfl ?_; refine xex rfl rfl ?_; refine xex rfl rfl ?_; refine xas rfl ?_; refine xas rfl ?_; refine wpList_nil ?_
  refine tn ?_; refine hK2 _ _ ?_; clear hK2 K2; refine sq ?_; intro K3 hK3; refine sq ?_; intro K4 hK4; refine wp_region_lit ?_; refine xmv rfl ?_
  refine xnt rfl ?_; refine wpList_nil ?_; refine tn ?_; refine hK4 _ _ ?_; clear hK4 K4
  refine cutK3 (g := g) (α := List AcctP) (β := Option Addr) (γ := Nat) (fun ps2 ao2 cap2 => [(2, .pointer (some ⟨b2, 0, none⟩)), (3, .pointer (some ⟨b3, 0, none⟩)), (4, .pointer (some ⟨b4, 0, none⟩)), (5, .int .i64 (placeK l.l r.tenant))]) (fun ps2 ao2 cap2 => comeC μ l r b2 b3 b4 ps2 ao2 cap2) (fun ps2 ao2 cap2 => accts ps2 = roomFor l.l r.tenant ∧ AcctsR (imm μ) ps2) (fun K5 hK5 => ?_) (fun ps2 ao2 cap2 ρ w hI H => ?_)
  · skip
    refine if_ rfl (fun k1 => ?_) (fun k1 => ?_)
    · have k1 : ¬ placeB l.l r.tenant = true := by simpa using k1
      have hr : roomFor l.l r.tenant = l.l.take (placeK l.l r.tenant) ++ newA r.tenant :: l.l.drop (placeK l.l r.tenant) := by unfold roomFor; rw [if_neg k1]
      refine wp_region_lit ?_; refine xfa rfl ?_
      refine xldb 3 H rfl rfl rfl ?_
      refine xmv rfl ?_; refine xfa rfl ?_
      refine xldb 2 H rfl rfl rfl ?_
      refine xbu rfl ?_; refine xbsb H rfl rfl rfl (by simp [Value.cells] <;> rfl) rfl rfl ?_; intro b24 w H
      refine xc [1, 0] H ((c_insert ao cap l.l.length (placeK l.l r.tenant) b24 (acctsV ps) (AcctP.v ⟨newA r.tenant, none, 0, none, 0⟩) hk hn rfl (AcctP.one _) (acctsV_one ps))) rfl rfl rfl rfl rfl ?_; rintro _ _ w ⟨ao5, cap5, rfl, rfl⟩ H; replace H := H.ap rfl
      have e1 : (acctsV ps).take (placeK l.l r.tenant * 7) ++ AcctP.v ⟨newA r.tenant, none, 0, none, 0⟩ ++ (acctsV ps).drop (placeK l.l r.tenant * 7) = acctsV (ps.take (placeK l.l r.tenant) ++ ⟨newA r.tenant, none, 0, none, 0⟩ :: ps.drop (placeK l.l r.tenant)) := by
        have h1 := flat_take AcctP.len ps (placeK l.l r.tenant)
        have h2 := flat_drop AcctP.len ps (placeK l.l r.tenant)
        unfold acctsV; rw [h1, h2]; simp
      have e2 : l.l.length + 1 = (ps.take (placeK l.l r.tenant) ++ ⟨newA r.tenant, none, 0, none, 0⟩ :: ps.drop (placeK l.l r.tenant)).length := by simp; omega
      rw [e1, e2] at H
      rw [e2]
      obtain ⟨ps5, hps5⟩ : ∃ ps5, ps.take (placeK l.l r.tenant) ++ ⟨newA r.tenant, none, 0, none, 0⟩ :: ps.drop (placeK l.l r.tenant) = ps5 := ⟨_, rfl⟩
      rw [hps5] at H ⊢
      refine xfa rfl ?_
      (refine xst 3 H rfl rfl rfl rfl rfl ?_; intro w H)
      refine wpList_nil ?_
      replace H : St g w (comeC μ l r b2 b3 b4 ps5 ao5 cap5) := H.keeps [0, 0, 2, 1, 0] rfl
      refine tn ?_; refine hK5 _ _ (ps5) (ao5) (cap5) ⟨rfl, rfl, rfl, rfl, True.intro⟩ ?_ H
      refine ⟨?_, ?_⟩
      · rw [hr, ← hps5, ← he]; simp [accts]
      · intro p hp; rw [← hps5] at hp
        rcases List.mem_append.1 hp with hp | hp
        · exact hA p (List.mem_of_mem_take hp)
        · rcases List.mem_cons.1 hp with rfl | hp
          · exact ⟨newA_ok _, newA_r _ _⟩
          · exact hA p (List.mem_of_mem_drop hp)
    · have k1 : placeB l.l r.tenant = true := by simpa using k1
      have hr : roomFor l.l r.tenant = l.l := by unfold roomFor; rw [if_pos k1]
      rw [← hpl] at H
      refine wp_skip ?_
      replace H : St g w (comeC μ l r b2 b3 b4 ps ao cap) := by unfold ledV at H; rw [← hpl] at H; exact H.keeps [3, 0, 2, 1, 0] rfl
      refine tn ?_; refine hK5 _ _ (ps) (ao) (cap) ⟨rfl, rfl, rfl, rfl, True.intro⟩ ?_ H
      exact ⟨by rw [hr, he], hA⟩
  · unfold comeC at H
    obtain ⟨he2, hA2⟩ := hI
    have hkl : placeK l.l r.tenant < ps2.length := by
      have : (roomFor l.l r.tenant).length = ps2.length := by rw [← he2]; simp
      rw [← this]; exact (List.getElem?_eq_some_iff.1 hat).1
    have hg : ps2[placeK l.l r.tenant]? = some ps2[placeK l.l r.tenant] := List.getElem?_eq_getElem hkl
    have hpa : ps2[placeK l.l r.tenant].a = l.find r.tenant := by
      rw [← he2, List.getElem?_map, hg] at hat; simpa using hat
    have hpm := hA2 _ (List.getElem_mem hkl)
    generalize ps2[placeK l.l r.tenant] = p at hg hpa hpm
    obtain ⟨bo, oo, rfl⟩ := own_some (H.front 1 rfl) (by have := (H.front 1 rfl).ownLen; omega)
    have hcell : Cells (own (some ⟨bo, oo, none⟩) cap2 acctT 7 ps2.length (acctsV ps2)) bo (oo + placeK l.l r.tenant * 7) p.v := by
      have := ((H.front 1 rfl).ownRd).2.sub (placeK l.l r.tenant * 7) 7
      rwa [flat_get AcctP.len hg] at this
    have hfs : (l.find r.tenant).leases.length < 1099511627776 ∧ (l.find r.tenant).closed.length < 1099511627776 := by
      unfold Ledg.find; split
      · rename_i h; have := placeB_lt h; unfold acctAt; rw [List.getElem?_eq_getElem this]; exact hsm _ (List.getElem_mem this)
      · exact ⟨by simp [newA], by simp [newA]⟩
    rw [← hpa] at hc hfs
    refine hK3 _ _ ?_; clear hK3 K3; refine sq ?_; intro K6 hK6
    refine cutK5 (g := g) (α := Option Addr) (β := Nat) (γ := Option Addr) (δ := Nat) (ε := Nat) (fun lo3 lc3 co3 cc3 b7 => [(2, .pointer (some ⟨b2, 0, none⟩)), (3, .pointer (some ⟨b3, 0, none⟩)), (4, .pointer (some ⟨b4, 0, none⟩)), (5, .int .i64 (placeK l.l r.tenant)), (7, .pointer (some ⟨b7, 0, none⟩)), (8, .int .i64 0)]) (fun lo3 lc3 co3 cc3 b7 => [blk b7 (acctV (acctApply p.a r) lo3 lc3 co3 cc3) acctT, own lo3 lc3 leaseT 2 (acctApply p.a r).leases.length (leasesV (acctApply p.a r).leases), own co3 cc3 stmtT 6 (acctApply p.a r).closed.length (closedV (acctApply p.a r).closed), blk b2 [.int .u64 l.seq, .slice (some ⟨bo, oo, none⟩) ps2.length cap2] ledT, own (some ⟨bo, oo, none⟩) cap2 acctT 7 ps2.length (acctsV ps2), imm μ, blk b3 (recV r) recT, blk b4 [.int .u64 0, .slice none 0 0] ledT]) (fun lo3 lc3 co3 cc3 b7 => True) (fun K7 hK7 => ?_) (fun lo3 lc3 co3 cc3 b7 ρ w hI H => ?_)
    · skip
      refine drws (m := 13) 100000 rfl rfl H ?_; clear H; intro w H; refine dt' 0 rfl (by kernel_rfl) H (yfa rfl) ?_
      refine dt 1 rfl (by kernel_rfl) H (zldb 0 rfl rfl rfl) ?_
      refine dt' 2 rfl (by kernel_rfl) H (ymv rfl) ?_
      refine dt 5 rfl (by kernel_rfl) H (zldab 3 rfl rfl rfl rfl) ?_
      refine dt' 3 rfl (by kernel_rfl) H (yia (j := placeK l.l r.tenant) rfl rfl rfl hkl) ?_
      refine dt 4 rfl (by kernel_rfl) H (zlda (m := 7) 1 rfl rfl hcell rfl) ?_
      refine do2 6 10 rfl rfl (by kernel_rfl) ?_ ?_
      · intro K8 hK8
        refine xc [2] H ((c_aapply_ok hT hpm.1 hfs.1 hfs.2 hrk hpm.2 hc)) rfl rfl rfl rfl rfl ?_; rintro _ _ w ⟨lo3, lc3, co3, cc3, rfl, rfl⟩ H; replace H := H.ap rfl
        refine wpList_nil ?_; refine tn ?_; refine hK8 _ _ (fun _ => (by exact H.keeps [3, 3, 2, 2, 2] rfl)) ?_; clear hK8 K8
        refine dt' 7 rfl (by kernel_rfl) (by exact H.keeps [3, 3, 2, 2, 2] rfl) (ymv rfl) ?_
        refine dt' 8 rfl (by kernel_rfl) (by exact H.keeps [3, 3, 2, 2, 2] rfl) (yex rfl rfl) ?_
        refine dt' 9 rfl (by kernel_rfl) (by exact H.keeps [3, 3, 2, 2, 2] rfl) (yex rfl rfl) ?_
        refine do1 10 rfl (by kernel_rfl) ?_; intro K9 hK9; refine xal H ?_; intro b7 w H
        refine wpList_nil ?_; refine tn ?_; refine hK9 _ _ (fun _ => (by exact H.keeps [4, 4, 3, 3, 3] rfl)) ?_; clear hK9 K9
        refine do1 11 rfl (by kernel_rfl) ?_; intro K10 hK10
        (refine xsta 0 H rfl rfl rfl rfl rfl rfl ?_; intro w H)
        refine wpList_nil ?_; refine tn ?_; refine hK10 _ _ (fun _ => (by exact H.keeps [4, 4, 3, 3, 3] rfl)) ?_; clear hK10 K10
        refine dt' 12 rfl (by kernel_rfl) (by exact H.keeps [4, 4, 3, 3, 3] rfl) (yas rfl) ?_; refine dd (by kernel_rfl) ?_
        replace H := H.keeps [0, 0, 0, 1, 1, 0, 0, 0] rfl
        refine tn ?_; refine hK7 _ _ (lo3) (lc3) (co3) (cc3) (b7) ⟨rfl, rfl, rfl, rfl, rfl, rfl, True.intro⟩ ?_ H
        trivial
      · skip
        intro K8 hK8; refine xal H ?_; intro b7 w H; refine wpList_nil ?_; refine tn ?_; refine hK8 _ _ (fun _ => H.drop) ?_; clear hK8 K8
        refine do1 6 rfl (by kernel_rfl) ?_; intro K9 hK9
        refine xc [3] H ((c_aapply_ok hT hpm.1 hfs.1 hfs.2 hrk hpm.2 hc)) rfl rfl rfl rfl rfl ?_; rintro _ _ w ⟨lo3, lc3, co3, cc3, rfl, rfl⟩ H; replace H := H.ap rfl
        refine wpList_nil ?_; refine tn ?_; refine hK9 _ _ (fun _ => (by exact H.keeps [4, 4, 2, 3, 3] rfl)) ?_; clear hK9 K9
        refine dt' 7 rfl (by kernel_rfl) (by exact H.keeps [4, 4, 2, 3, 3] rfl) (ymv rfl) ?_
        refine dt' 8 rfl (by kernel_rfl) (by exact H.keeps [4, 4, 2, 3, 3] rfl) (yex rfl rfl) ?_
        refine dt' 9 rfl (by kernel_rfl) (by exact H.keeps [4, 4, 2, 3, 3] rfl) (yex rfl rfl) ?_
        refine do1 11 rfl (by kernel_rfl) ?_; intro K10 hK10
        (refine xsta 3 H rfl rfl rfl rfl rfl rfl ?_; intro w H)
        refine wpList_nil ?_; refine tn ?_; refine hK10 _ _ (fun _ => (by exact H.keeps [4, 4, 3, 3, 3] rfl)) ?_; clear hK10 K10
        refine dt' 12 rfl (by kernel_rfl) (by exact H.keeps [4, 4, 3, 3, 3] rfl) (yas rfl) ?_; refine dd (by kernel_rfl) ?_
        replace H := H.keeps [0, 0, 0, 1, 1, 0, 0, 0] rfl
        refine tn ?_; refine hK7 _ _ (lo3) (lc3) (co3) (cc3) (b7) ⟨rfl, rfl, rfl, rfl, rfl, rfl, True.intro⟩ ?_ H
        trivial
    · refine hK6 _ _ ?_; clear hK6 K6; refine sq ?_; intro K8 hK8; refine sq ?_; intro K9 hK9; refine wp_region_lit ?_; refine xmv rfl ?_; refine xeq rfl rfl ?_
      refine wpList_nil ?_; refine tn ?_; refine hK9 _ _ ?_; clear hK9 K9; refine ift rfl ?_; refine sq ?_; intro K10 hK10; refine wp_region_lit ?_; refine xfa rfl ?_
      refine xldb 3 H rfl rfl rfl ?_
      refine xmv rfl ?_
      refine xldab 0 H rfl rfl rfl rfl ?_
      refine xio 4 H rfl hkl hkl rfl rfl rfl ?_; intro b43 o43 ha43
      have hcl := (H.front 4 rfl).ownLen
      refine xsoa 4 (placeK l.l r.tenant * 7) (vs := acctV (acctApply p.a r) lo3 lc3 co3 cc3) H ha43 rfl (by have := hcl.1; show placeK l.l r.tenant * 7 + 7 ≤ (acctsV ps2).length; omega) (by simp [acctV]) rfl (AcctP.one ⟨_, _, _, _, _⟩) rfl rfl rfl ?_; intro w H
      refine wpList_nil ?_; refine tn ?_; refine hK10 _ _ ?_; clear hK10 K10; refine wp_region_lit ?_; refine xfa rfl ?_
      refine xldb 6 H rfl rfl rfl ?_
      refine xfa rfl ?_
      (refine xst 4 H rfl rfl rfl rfl rfl ?_; intro w H)
      refine wpList_nil ?_; refine tn ?_; refine hK8 _ _ ?_; clear hK8 K8; refine sq ?_; intro K11 hK11; refine wp_region_lit ?_
      refine xldab 0 H rfl rfl rfl rfl ?_
      (refine xsta 7 H rfl rfl rfl rfl rfl rfl ?_; intro w H)
      refine wpList_nil ?_; refine tn ?_; refine hK11 _ _ ?_; clear hK11 K11; refine wp_ret ?_
      have hc1 := (H.front' [4] rfl rfl).ownLen
      have hc2 := (H.front' [5] rfl rfl).ownLen
      obtain ⟨ξ1, hξ1, hr1, H⟩ := (H.front' [4, 5] rfl rfl).freezeOwn
      obtain ⟨ξ2, hξ2, hr2, H⟩ := (H.front' [5, 0] rfl rfl).freezeOwn
      have hsees := hξ1.trans hξ2
      have hset := acctsV_set ps2 (placeK l.l r.tenant) ⟨acctApply p.a r, lo3, lc3, co3, cc3⟩ hkl
      rw [show acctV (acctApply p.a r) lo3 lc3 co3 cc3 = AcctP.v ⟨acctApply p.a r, lo3, lc3, co3, cc3⟩ from rfl, hset] at H
      have hlr : ps2.length = (ledgerCome l r).l.length := by unfold ledgerCome; rw [← he2]; simp
      rw [hlr] at H
      refine hQ _ _ _ ?_
      refine rca 1 [3, 0] rfl rfl H rfl (blk_cells (k := 2) rfl rfl) rfl rfl ?_
      refine ⟨ξ2, _, _, _, hsees, ?_, ?_, rfl, rfl⟩
      · unfold ledgerCome accts; simp only; rw [List.map_set, ← hpa, ← he2]
      · intro q hq
        rcases List.mem_or_eq_of_mem_set hq with hq | rfl
        · exact ⟨(hA2 q hq).1, AcctR.sees (hA2 q hq).2 hsees.sees⟩
        · exact ⟨acctApply_ok hpm.1 hrk hfs.1 hfs.2 hc, ⟨hr1.up hξ2, hr2, hc1.2, hc2.2⟩⟩
end Go.Proofs.YtegllbmkkfnajaaGreatDoor
end
section
namespace Go.Proofs.YtegllbmkkfnajaaGreatDoor
open Go Go.Proofs
attribute [local irreducible] Go.wpList Go.Code.wp St Fn mk
set_option maxRecDepth 20000
structure Ledg.sm (l : Ledg) : Prop where
  n : l.l.length < 1099511627776
  a : ∀ a ∈ l.l, a.leases.length < 1099511627776 ∧ a.closed.length < 1099511627776
def ledZ : List Value := [.int .u64 0, .slice none 0 0]
theorem ledgerCheck_find {l : Ledg} {r : Rec} (h : ledgerCheck l r = 0) : acctCheck (l.find r.tenant) r = 0 := by
  unfold ledgerCheck at h
  split at h
  · rename_i h1; exact absurd h h1
  split at h
  · cases h
  split at h
  · exact h
  split at h
  · cases h
  · exact h
def lapplyR (μ : Mem) (l : Ledg) (r : Rec) (v : Value) (L : List Asn) : Prop :=
  if ledgerCheck l r = 0 then ∃ ν ps ao cap, μ ≤ ν ∧ accts ps = (ledgerCome l r).l ∧ AcctsR (imm ν) ps ∧ v = .tuple #[.agg (ledV (ledgerCome l r) ao cap).toArray, .int .i64 0] ∧ L = [own ao cap acctT 7 (ledgerCome l r).l.length (acctsV ps), imm ν]
  else v = .tuple #[.agg ledZ.toArray, .int .i64 (ledgerCheck l r)] ∧ L = [imm μ]
theorem c_lapply (μ : Mem) (hT : Tab (imm μ)) (l : Ledg) (ps : List AcctP) (ao : Option Addr) (cap : Nat) (r : Rec) (hL : LedR (imm μ) l ps ao cap) (hs : l.sm) (hrk : r.ok) :
    Fn Tryz.prog 32 [.agg (ledV l ao cap).toArray, .agg (recV r).toArray] [imm μ] (Ret (lapplyR μ l r)) := by
  refine Fn.intro Tryz.call32 Tryz.func32 rfl Tryz.ntmps32 rfl ?_; intro g w Q hQ H
  refine sq ?_; intro K1 hK1; refine wp_region_lit ?_; refine xbx H rfl rfl ?_; intro b2 w H; refine xbx H rfl rfl ?_; intro b3 w H; refine xal H ?_; intro b4 w H
  refine xas rfl ?_; refine wpList_nil ?_; refine tn ?_; refine hK1 _ _ ?_; clear hK1 K1; refine sq ?_; intro K2 hK2; refine sq ?_; intro K3 hK3
  refine wp_region_lit ?_
  refine xldab 2 H rfl rfl rfl rfl ?_
  refine xldab 1 H rfl rfl rfl rfl ?_
  refine xc [3] H ((c_lcheck (imm μ) l ps ao cap r hL hrk)) rfl rfl rfl rfl rfl ?_; rintro _ _ w ⟨rfl, rfl⟩ H; replace H := H.ap rfl
  refine xas rfl ?_; refine wpList_nil ?_; refine tn ?_; refine hK3 _ _ ?_; clear hK3 K3; refine sq ?_; intro K4 hK4; refine wp_region_lit ?_; refine xmv rfl ?_
  refine xne rfl rfl ?_; refine wpList_nil ?_; refine tn ?_; refine hK4 _ _ ?_; clear hK4 K4
  refine if_ rfl (fun h0 => ?_) (fun h0 => ?_)
  · have h0 : ¬ ledgerCheck l r = 0 := by simpa using h0
    refine sq ?_; intro K5 hK5; refine wp_region_lit ?_; refine xbu rfl ?_; refine xmv rfl ?_
    (refine xsta 1 H rfl rfl rfl rfl rfl rfl ?_; intro w H)
    refine xas rfl ?_; refine wpList_nil ?_; refine tn ?_; refine hK5 _ _ ?_; clear hK5 K5; refine wp_ret ?_; refine tr ?_; clear hK2 K2
    refine hQ _ _ _ ?_
    refine rca1 0 [1] rfl rfl rfl H rfl (blk_cells (k := 2) rfl rfl) rfl rfl ?_
    unfold lapplyR; rw [if_neg h0]; exact ⟨rfl, rfl⟩
  · have h0 : ledgerCheck l r = 0 := by simpa using h0
    refine wp_skip ?_; refine tn ?_; refine hK2 _ _ ?_; clear hK2 K2; refine sq ?_; intro K5 hK5
    refine drwk (m := 6) [3, 2] 100000 rfl rfl rfl H ?_; clear H; intro w H
    refine dt 0 rfl (by kernel_rfl) (H.keeps [3, 2] rfl) (zldab 0 rfl rfl rfl rfl) ?_
    refine dt 2 rfl (by kernel_rfl) (H.keeps [3, 2] rfl) (zldab 1 rfl rfl rfl rfl) ?_
    refine do1 1 rfl (by kernel_rfl) ?_; intro K6 hK6
    refine xc [0] H ((c_lclone μ l ps ao cap hL)) rfl rfl rfl rfl rfl ?_; rintro _ _ w ⟨ν, ps2, ao2, cap2, hμ, he2, hA2, rfl, rfl⟩ H; replace H := H.ap rfl
    refine wpList_nil ?_; refine tn ?_; refine hK6 _ _ (fun _ => (H.keeps [4, 3] rfl)) ?_; clear hK6 K6; refine do1 3 rfl (by kernel_rfl) ?_; intro K7 hK7
    refine xc [0, 0] H ((c_come ν (hT.up hμ.sees) l ps2 ao2 cap2 r he2 hA2 hL.seq hs.n hrk hs.a (ledgerCheck_find h0))) rfl rfl rfl rfl rfl ?_; rintro _ _ w ⟨ξ, ps3, ao3, cap3, hξ, he3, hA3, rfl, rfl⟩ H; replace H := H.ap rfl
    refine wpList_nil ?_; refine tn ?_; refine hK7 _ _ (fun _ => (H.keeps [4, 3] rfl)) ?_; clear hK7 K7; refine do1 4 rfl (by kernel_rfl) ?_; intro K8 hK8
    (refine xsta 2 H rfl rfl rfl rfl rfl rfl ?_; intro w H)
    refine wpList_nil ?_; refine tn ?_; refine hK8 _ _ (fun _ => (H.keeps [4, 3] rfl)) ?_; clear hK8 K8
    refine dt' 5 rfl (by kernel_rfl) (H.keeps [4, 3] rfl) (yas rfl) ?_; refine dd (by kernel_rfl) ?_; refine tn ?_; refine hK5 _ _ ?_; clear hK5 K5; refine wp_ret ?_
    refine hQ _ _ _ ?_
    refine rca1 0 [1, 1] rfl rfl rfl H rfl (blk_cells (k := 2) rfl rfl) rfl rfl ?_
    unfold lapplyR; rw [if_pos h0]; exact ⟨ξ, ps3, ao3, cap3, hμ.trans hξ, he3, hA3, rfl, rfl⟩
theorem Ledg.find_at {l : Ledg} {t : List UInt8} (h : placeB l.l t = true) : l.find t = acctAt l.l (placeK l.l t) := by unfold Ledg.find; rw [if_pos h]
theorem c_lfind (A : Asn) (l : Ledg) (ps : List AcctP) (ao : Option Addr) (cap : Nat) (t : List UInt8) (hL : LedR A l ps ao cap) :
    Fn Tryz.prog 29 [.agg (ledV l ao cap).toArray, .string (str t)] [A] (Ret fun v L => ∃ lo lc co cc, v = .agg (acctV (l.find t) lo lc co cc).toArray ∧
      L = [own lo lc leaseT 2 (l.find t).leases.length (leasesV (l.find t).leases), own co cc stmtT 6 (l.find t).closed.length (closedV (l.find t).closed), A]) := by
  have hp := c_place A ps l.seq ao cap t hL.rd hL.len
  rw [hL.n, hL.e] at hp
  refine Fn.intro Tryz.call29 Tryz.func29 rfl Tryz.ntmps29 rfl ?_; intro g w Q hQ H
  refine sq ?_; intro K1 hK1; refine wp_region_lit ?_; refine xbx H rfl rfl ?_; intro b2 w H; refine xal H ?_; intro b4 w H; refine wpList_nil ?_
  refine tn ?_; refine hK1 _ _ ?_; clear hK1 K1; refine sq ?_; intro K2 hK2; refine wp_region_lit ?_
  refine xldab 1 H rfl rfl rfl rfl ?_
  refine xmv rfl ?_
  refine xc [2] H (hp) rfl rfl rfl rfl rfl ?_; rintro _ _ w ⟨rfl, rfl⟩ H; replace H := H.ap rfl
  refine xmv rfl ?_; refine xex rfl rfl ?_; refine xex rfl rfl ?_; refine xas rfl ?_; refine xas rfl ?_; refine wpList_nil ?_
  refine tn ?_; refine hK2 _ _ ?_; clear hK2 K2; refine sq ?_; intro K3 hK3; refine sq ?_; intro K4 hK4; refine wp_region_lit ?_; refine xmv rfl ?_
  refine xnt rfl ?_; refine wpList_nil ?_; refine tn ?_; refine hK4 _ _ ?_; clear hK4 K4
  refine if_ rfl (fun k1 => ?_) (fun k1 => ?_)
  · have k1 : ¬ placeB l.l t = true := by simpa using k1
    have e : l.find t = newA t := by unfold Ledg.find; rw [if_neg k1]
    refine sq ?_; intro K5 hK5; refine wp_region_lit ?_; refine xmv rfl ?_; refine xbu rfl ?_
    (refine xsta 1 H rfl rfl rfl rfl rfl rfl ?_; intro w H)
    refine wpList_nil ?_; refine tn ?_; refine hK5 _ _ ?_; clear hK5 K5; refine wp_ret ?_; refine tr ?_; clear hK3 K3
    replace H := (H.ownNil leaseT 2).ownNil stmtT 6
    refine hQ _ _ _ ?_
    refine rca 2 [1, 0, 1] rfl rfl H rfl (blk_cells (k := 7) rfl rfl) rfl rfl ?_
    rw [e]; exact ⟨none, 0, none, 0, rfl, rfl⟩
  · have k1 : placeB l.l t = true := by simpa using k1
    obtain ⟨p, hg, hpe, hpok, hpr⟩ := hL.at (placeB_lt k1)
    have hk := placeB_lt k1
    refine wp_skip ?_; refine tn ?_; refine hK3 _ _ ?_; clear hK3 K3; refine sq ?_; intro K5 hK5; refine wp_region_lit ?_; refine xfa rfl ?_
    refine xldb 2 H rfl rfl rfl ?_
    refine xmv rfl ?_
    refine xiar hL.rd (flat_get AcctP.len hg) (by simp [AcctP.v, acctV]) hk rfl rfl rfl ?_; intro b20 o20 hx20
    refine xlda 0 H rfl rfl hx20 rfl ?_
    refine xc [0] H ((c_aclone A p.a p.lo p.lc p.co p.cc hpok.nl hpok.nc hpr)) rfl rfl rfl rfl rfl ?_; rintro _ _ w ⟨lo, lc, co, cc, rfl, rfl⟩ H; replace H := H.ap rfl
    (refine xsta 3 H rfl rfl rfl rfl rfl rfl ?_; intro w H)
    refine wpList_nil ?_; refine tn ?_; refine hK5 _ _ ?_; clear hK5 K5; refine wp_ret ?_
    refine hQ _ _ _ ?_
    refine rca 0 [1, 1, 1] rfl rfl H rfl (blk_cells (k := 7) rfl rfl) rfl rfl ?_
    rw [Ledg.find_at k1, ← hpe]; exact ⟨lo, lc, co, cc, rfl, rfl⟩
end Go.Proofs.YtegllbmkkfnajaaGreatDoor
end
section
namespace Go.Proofs.YtegllbmkkfnajaaGreatDoor
open Go Go.Proofs
attribute [local irreducible] Go.wpList Go.Code.wp St Fn mk
set_option maxRecDepth 20000
abbrev recsV (l : List Rec) : List Value := l.flatMap recV
theorem recV_len (r : Rec) : (recV r).length = 6 := rfl
theorem recV_one (r : Rec) : ∀ v ∈ recV r, v.oneCell' = true := by intro v hv; simp [recV] at hv; rcases hv with rfl | rfl | rfl | rfl | rfl | rfl <;> rfl
def opensR (f : Nat → List Rec) (t : List UInt8) : Nat → List Lease → List Rec
  | s, [] => f s
  | s, o :: ls => ⟨(s + 1) % 18446744073709551616, 4, t, o.id, o.size, 0⟩ :: opensR f t ((s + 1) % 18446744073709551616) ls
def opensF : List Acct → Nat → List Rec
  | [], _ => []
  | a :: l, s => opensR (opensF l) a.tenant s a.leases
theorem c_lopen (A : Asn) (l : Ledg) (ps : List AcctP) (ao : Option Addr) (cap : Nat) (hL : LedR A l ps ao cap) (hW : (opensF l.l l.seq).length < 1099511627776) :
    Fn Tryz.prog 38 [.agg (ledV l ao cap).toArray] [A] (Ret fun v L => ∃ ao' cap', v = .slice ao' (opensF l.l l.seq).length cap' ∧ L = [own ao' cap' recT 6 (opensF l.l l.seq).length (recsV (opensF l.l l.seq)), A]) := by
  have hn := hL.n
  have hln := hL.len
  obtain ⟨W, hWe⟩ : ∃ W, opensF l.l l.seq = W := ⟨_, rfl⟩
  rw [hWe] at hW ⊢
  refine Fn.intro Tryz.call38 Tryz.func38 rfl Tryz.ntmps38 rfl ?_; intro g w Q hQ H
  refine sq ?_; intro K1 hK1; refine wp_region_lit ?_; refine xbx H rfl rfl ?_; intro b1 w H; refine xas rfl ?_; refine wpList_nil ?_
  refine tn ?_; refine hK1 _ _ ?_; clear hK1 K1; refine sq ?_; intro K2 hK2; refine wp_region_lit ?_; refine xas rfl ?_; refine wpList_nil ?_
  refine tn ?_; refine hK2 _ _ ?_; clear hK2 K2; refine sq ?_; intro K3 hK3; refine wp_region_lit ?_; refine xfa rfl ?_
  refine xldb 0 H rfl rfl rfl ?_
  refine xas rfl ?_; refine wpList_nil ?_; refine tn ?_; refine hK3 _ _ ?_; clear hK3 K3; refine sq ?_; intro K4 hK4; refine sq ?_; intro K5 hK5
  refine wp_region_lit ?_; refine xfa rfl ?_
  refine xldb 0 H rfl rfl rfl ?_
  refine xli rfl ?_; refine xmv rfl ?_; refine wpList_nil ?_; refine tn ?_; refine hK5 _ _ ?_; clear hK5 K5; refine wp_block ?_
  replace H := (H.ownNil recT 6).keeps [0, 1] rfl
  refine lp5 (α := Nat) (β := Nat) (γ := List Rec) (δ := Option Addr) (ε := Nat) (fun k s dn ao2 cap2 => [(3, .slice ao2 dn.length cap2), (4, .int .u64 s), (12, .slice ao l.l.length cap), (13, .int .i64 l.l.length), (14, .int .i64 k)]) (fun k s dn ao2 cap2 => [own ao2 cap2 recT 6 dn.length (recsV dn), A]) (fun k s dn ao2 cap2 => s < 18446744073709551616 ∧ dn ++ opensF (l.l.drop k) s = W ∧ k ≤ l.l.length) (fun k s dn ao2 cap2 => l.l.length - k) (0) (l.seq) ([]) (none) (0) ⟨rfl, rfl, rfl, rfl, rfl, True.intro⟩ (⟨hL.seq, by simpa using hWe, Nat.zero_le _⟩) H ?_; intro k s dn ao2 cap2 ρ w hI H K6 hK6
  obtain ⟨hs, hd, hk⟩ := hI
  refine sq ?_; intro K7 hK7; refine wp_region_lit ?_; refine xlt rfl rfl ?_; refine wpList_nil ?_; refine tn ?_; refine hK7 _ _ ?_; clear hK7 K7
  refine sq ?_; intro K8 hK8
  refine if_ rfl (fun k1 => ?_) (fun k1 => ?_)
  · have k1 : k < l.l.length := by simpa using k1
    obtain ⟨p, hg, hpe, hpok, hpr⟩ := hL.at k1
    have hpk : l.l.drop k = p.a :: l.l.drop (k + 1) := by rw [List.drop_eq_getElem_cons k1, hpe]; unfold acctAt; rw [List.getElem?_eq_getElem k1]
    rw [hpk] at hd
    unfold opensF at hd
    refine wp_skip ?_; refine tn ?_; refine hK8 _ _ ?_; clear hK8 K8; refine sq ?_; intro K9 hK9; refine wp_block ?_; refine sq ?_; intro K10 hK10
    refine wp_region_lit ?_
    refine xiar hL.rd (flat_get AcctP.len hg) (by simp [AcctP.v, acctV]) k1 rfl rfl rfl ?_; intro b16 o16 hx16
    refine xlda 1 H rfl rfl hx16 rfl ?_
    refine xal H ?_; intro b6 w H
    (refine xsta 0 H rfl rfl rfl rfl rfl rfl ?_; intro w H)
    refine wpList_nil ?_; refine tn ?_; refine hK10 _ _ ?_; clear hK10 K10; refine sq ?_; intro K11 hK11; refine wp_region_lit ?_; refine xfa rfl ?_
    refine xldb 0 H rfl rfl rfl ?_
    refine xli rfl ?_; refine xmv rfl ?_; refine wpList_nil ?_; refine tn ?_; refine hK11 _ _ ?_; clear hK11 K11; refine wp_block ?_
    replace H := H.keeps [1, 1, 0] rfl
    refine lp5 (α := Nat) (β := Nat) (γ := List Rec) (δ := Option Addr) (ε := Nat) (fun j s2 dn2 ao3 cap3 => [(3, .slice ao3 dn2.length cap3), (4, .int .u64 s2), (6, .pointer (some ⟨b6, 0, none⟩)), (12, .slice ao l.l.length cap), (13, .int .i64 l.l.length), (14, .int .i64 k), (19, .slice p.lo p.a.leases.length p.lc), (20, .int .i64 p.a.leases.length), (21, .int .i64 j)]) (fun j s2 dn2 ao3 cap3 => [own ao3 cap3 recT 6 dn2.length (recsV dn2), A, blk b6 (acctV p.a p.lo p.lc p.co p.cc) acctT]) (fun j s2 dn2 ao3 cap3 => s2 < 18446744073709551616 ∧ dn2 ++ opensR (opensF (l.l.drop (k + 1))) p.a.tenant s2 (p.a.leases.drop j) = W ∧ j ≤ p.a.leases.length) (fun j s2 dn2 ao3 cap3 => p.a.leases.length - j) (0) (s) (dn) (ao2) (cap2) ⟨rfl, rfl, rfl, rfl, rfl, rfl, rfl, rfl, rfl, True.intro⟩ (⟨hs, by simpa using hd, Nat.zero_le _⟩) H ?_; intro j s2 dn2 ao3 cap3 ρ w hI H K12 hK12
    obtain ⟨hs2, hd2, hj⟩ := hI
    refine sq ?_; intro K13 hK13; refine wp_region_lit ?_; refine xlt rfl rfl ?_; refine wpList_nil ?_; refine tn ?_; refine hK13 _ _ ?_; clear hK13 K13
    refine sq ?_; intro K14 hK14
    refine if_ rfl (fun k2 => ?_) (fun k2 => ?_)
    · have k2 : j < p.a.leases.length := by simpa using k2
      have hgj : p.a.leases[j]? = some p.a.leases[j] := List.getElem?_eq_getElem k2
      have hdj : p.a.leases.drop j = p.a.leases[j] :: p.a.leases.drop (j + 1) := List.drop_eq_getElem_cons k2
      have hokj := hpok.leases _ (List.getElem_mem k2)
      have hpn := hpok.nl
      rw [hdj] at hd2
      generalize p.a.leases[j] = o at hgj hokj hd2
      unfold opensR at hd2
      have hlt : dn2.length < W.length := by rw [← hd2]; simp
      refine wp_skip ?_; refine tn ?_; refine hK14 _ _ ?_; clear hK14 K14; refine sq ?_; intro K15 hK15; refine wp_block ?_; refine sq ?_; intro K16 hK16
      refine wp_region_lit ?_
      refine xiar hpr.l (flat_get leaseV_len hgj) (by simp [leaseV]) k2 rfl rfl rfl ?_; intro b23 o23 hx23
      refine xlda 1 H rfl rfl hx23 rfl ?_
      refine xal H ?_; intro b8 w H
      (refine xsta 0 H rfl rfl rfl rfl rfl rfl ?_; intro w H)
      refine wpList_nil ?_; refine tn ?_; refine hK16 _ _ ?_; clear hK16 K16; refine sq ?_; intro K17 hK17; refine wp_region_lit ?_; refine xmv rfl ?_
      refine xadm_u64 (b := 1) rfl rfl ?_
      refine xas rfl ?_; refine wpList_nil ?_; refine tn ?_; refine hK17 _ _ ?_; clear hK17 K17; refine wp_region_lit ?_; refine xmv rfl ?_; refine xmv rfl ?_
      refine xfa rfl ?_
      refine xldb 3 H rfl rfl rfl ?_
      refine xfa rfl ?_
      refine xldb 0 H rfl rfl rfl ?_
      refine xfa rfl ?_
      refine xldb 0 H rfl rfl rfl ?_
      refine xbu rfl ?_; refine xbs H rfl rfl rfl (by simp [Value.cells] <;> rfl) rfl rfl ?_; intro b36 w H
      refine xap 2 H rfl rfl rfl (src_at (news := recV ⟨(s2 + 1) % 18446744073709551616, 4, p.a.tenant, o.id, o.size, 0⟩) 0 H rfl (St.ownRd H) rfl) (recV_one _) (by omega) (by simp only [maxLen]; omega) ?_; intro ao37 cap37 w H hn37
      refine xas rfl ?_; refine wpList_nil ?_; refine bn ?_; refine tn ?_; refine hK15 _ _ ?_; clear hK15 K15; refine wp_region_lit ?_
      refine xadi rfl rfl (wi64 (by omega)) ?_
      refine xmv rfl ?_; refine wpList_nil ?_
      replace H := H.keeps [0, 2, 2] rfl
      have e1 : recsV dn2 ++ recV ⟨(s2 + 1) % 18446744073709551616, 4, p.a.tenant, o.id, o.size, 0⟩ = recsV (dn2 ++ [⟨(s2 + 1) % 18446744073709551616, 4, p.a.tenant, o.id, o.size, 0⟩]) := by simp [recsV]
      have e2 : dn2.length + 1 = (dn2 ++ [(⟨(s2 + 1) % 18446744073709551616, 4, p.a.tenant, o.id, o.size, 0⟩ : Rec)]).length := by simp
      rw [e1, e2] at H
      rw [e2]
      refine tn ?_; refine hK12 _ _ (j + 1) ((s2 + 1) % 18446744073709551616) (dn2 ++ [⟨(s2 + 1) % 18446744073709551616, 4, p.a.tenant, o.id, o.size, 0⟩]) (ao37) (cap37) ⟨rfl, rfl, rfl, rfl, rfl, rfl, rfl, rfl, rfl, True.intro⟩ ?_ H ?_
      · exact ⟨Nat.mod_lt _ (by decide), by rw [← hd2]; simp, k2⟩
      · omega
    · have k2 : j = p.a.leases.length := by have := of_decide_eq_false k2; omega
      subst k2
      rw [List.drop_length] at hd2
      unfold opensR at hd2
      refine wp_exit ?_; refine te ?_; clear hK14 K14; refine te ?_; clear hK12 K12; refine be ?_; refine bn ?_; refine tn ?_; refine hK9 _ _ ?_; clear hK9 K9
      refine wp_region_lit ?_
      refine xadi rfl rfl (wi64 (by omega)) ?_
      refine xmv rfl ?_; refine wpList_nil ?_
      replace H := H.keeps [0, 0] rfl
      refine tn ?_; refine hK6 _ _ (k + 1) (s2) (dn2) (ao3) (cap3) ⟨rfl, rfl, rfl, rfl, rfl, True.intro⟩ ?_ H ?_
      · exact ⟨hs2, hd2, k1⟩
      · omega
  · have k1 : k = l.l.length := by have := of_decide_eq_false k1; omega
    subst k1
    have hd : dn = W := by rw [List.drop_length] at hd; simpa [opensF] using hd
    subst hd
    refine wp_exit ?_; refine te ?_; clear hK8 K8; refine te ?_; clear hK6 K6; refine be ?_; refine tn ?_; refine hK4 _ _ ?_; clear hK4 K4
    refine sq ?_; intro K9 hK9; refine wp_region_lit ?_; refine xmv rfl ?_; refine xas rfl ?_; refine wpList_nil ?_; refine tn ?_; refine hK9 _ _ ?_; clear hK9 K9
    refine wp_ret ?_
    refine hQ _ _ _ ?_; refine r1 rfl rfl H ?_
    exact ⟨_, _, rfl, rfl⟩
end Go.Proofs.YtegllbmkkfnajaaGreatDoor
end
section
namespace Go.Proofs.YtegllbmkkfnajaaGreatDoor
open Go Go.Proofs
attribute [local irreducible] Go.wpList Go.Code.wp St Fn mk
set_option maxRecDepth 20000
theorem c_aplain (b : Nat) (hb : b < 18446744073709551616) : Fn Tryz.prog 137 [.int .u64 b] [] (Ret fun v L => v = .bool (rplain b) ∧ L = []) := by
  unfold rplain
  refine Fn.intro Tryz.call137 Tryz.func137 rfl Tryz.ntmps137 rfl ?_; intro g w Q hQ H
  by_cases h : fPrice b = true
  · refine sq ?_; intro K1 hK1; refine wp_region_lit ?_; refine xas rfl ?_; refine wpList_nil ?_; refine tn ?_; refine hK1 _ _ ?_; clear hK1 K1
    refine sq ?_; intro K2 hK2; refine wp_region_lit ?_; refine xmv rfl ?_
    refine xc [] H ((c_pcheck_t hb h)) rfl rfl rfl rfl rfl ?_; rintro _ _ w ⟨rfl, rfl⟩ H; replace H := H.ap rfl
    refine xmv rfl ?_; refine xex rfl rfl ?_; refine xex rfl rfl ?_; refine xas rfl ?_; refine xas rfl ?_; refine wpList_nil ?_
    refine tn ?_; refine hK2 _ _ ?_; clear hK2 K2; refine sq ?_; intro K3 hK3; refine wp_region_lit ?_; refine xmv rfl ?_; refine xeq rfl rfl ?_; refine xmv rfl ?_
    refine jand (b := ?b1) 4 12 [13, 14, 15] 16 rfl rfl H (fun hhc1 hc1 => ?a1) (fun hhc1 hc1 => ?o1) ?_
    case a1 =>
      refine xgy rfl rfl rfl ?_; refine xmv rfl ?_; refine xgy rfl rfl rfl ?_; refine xmv rfl ?_; refine xgy rfl rfl rfl ?_; refine xeq rfl rfl ?_
      refine xpkt rfl rfl ?_; exact hc1 _ _ _ _ H
    case o1 =>
      refine xgn rfl rfl rfl ?_; refine xgn rfl rfl rfl ?_; refine xgn rfl rfl rfl ?_; refine xpkf rfl rfl ?_; exact hc1 _ _ _ _ H
    intro u13 u14 u15 w H; refine xas rfl ?_; refine wpList_nil ?_; refine tn ?_; refine hK3 _ _ ?_; clear hK3 K3; refine wp_ret ?_
    refine hQ _ _ _ ?_; refine r1 rfl rfl H ?_
    rw [h]; exact ⟨rfl, rfl⟩
  · refine sq ?_; intro K1 hK1; refine wp_region_lit ?_; refine xas rfl ?_; refine wpList_nil ?_; refine tn ?_; refine hK1 _ _ ?_; clear hK1 K1
    refine sq ?_; intro K2 hK2; refine wp_region_lit ?_; refine xmv rfl ?_
    refine xc [] H ((c_pcheck_f hb h)) rfl rfl rfl rfl rfl ?_; rintro _ _ w ⟨rfl, rfl⟩ H; replace H := H.ap rfl
    refine xmv rfl ?_; refine xex rfl rfl ?_; refine xex rfl rfl ?_; refine xas rfl ?_; refine xas rfl ?_; refine wpList_nil ?_
    refine tn ?_; refine hK2 _ _ ?_; clear hK2 K2; refine sq ?_; intro K3 hK3; refine wp_region_lit ?_; refine xmv rfl ?_; refine xeq rfl rfl ?_; refine xmv rfl ?_
    refine jand (b := ?b2) 4 12 [13, 14, 15] 16 rfl rfl H (fun hhc2 hc2 => ?a2) (fun hhc2 hc2 => ?o2) ?_
    case a2 =>
      refine xgy rfl rfl rfl ?_; refine xmv rfl ?_; refine xgy rfl rfl rfl ?_; refine xmv rfl ?_; refine xgy rfl rfl rfl ?_; refine xeq rfl rfl ?_
      refine xpkt rfl rfl ?_; exact hc2 _ _ _ _ H
    case o2 =>
      refine xgn rfl rfl rfl ?_; refine xgn rfl rfl rfl ?_; refine xgn rfl rfl rfl ?_; refine xpkf rfl rfl ?_; exact hc2 _ _ _ _ H
    intro u13 u14 u15 w H; refine xas rfl ?_; refine wpList_nil ?_; refine tn ?_; refine hK3 _ _ ?_; clear hK3 K3; refine wp_ret ?_
    refine hQ _ _ _ ?_; refine r1 rfl rfl H ?_
    rw [Bool.not_eq_true _ |>.mp h]; exact ⟨rfl, rfl⟩
def leaseBad (u last : Nat) (o : Lease) : Bool := ((decide ((o.id : Int) ≤ (last : Int)) || ((o.size : Int) == 0)) || over u o.size)
def leasesR : Nat → Nat → List Lease → Bool
  | _, _, [] => true
  | u, last, o :: l => !leaseBad u last o && leasesR ((u + o.size) % 18446744073709551616) o.id l
def stmtBad (t : List UInt8) (i : Nat) (s : Stmt) : Bool :=
  (!fPrice s.bits || ((dueOf s.used s.bits : Int) != (s.due : Int)) || !rplain s.bits) || (!(s.tenant == t) || ((s.period : Int) != (i : Int)))
def stmtsR (t : List UInt8) : Nat → List Stmt → Bool
  | _, [] => true
  | i, s :: l => !stmtBad t i s && stmtsR t (i + 1) l
theorem leasesR_cons (u last : Nat) (o : Lease) (l : List Lease) : leasesR u last (o :: l) = (!leaseBad u last o && leasesR ((u + o.size) % 18446744073709551616) o.id l) := rfl
theorem leasesR_nil (u last : Nat) : leasesR u last [] = true := rfl
theorem stmtsR_cons (t : List UInt8) (i : Nat) (s : Stmt) (l : List Stmt) : stmtsR t i (s :: l) = (!stmtBad t i s && stmtsR t (i + 1) l) := rfl
theorem stmtsR_nil (t : List UInt8) (i : Nat) : stmtsR t i [] = true := rfl
def acctRight (a : Acct) : Bool :=
  (tenantOk a.tenant && rplain a.bits) && leasesR a.used 0 a.leases && !(decide ((a.period : Int) > 65536) || ((a.closed.length : Int) != (a.period : Int))) && stmtsR a.tenant 0 a.closed
theorem c_aright (A : Asn) (hT : Tab A) (a : Acct) (lo : Option Addr) (lc : Nat) (co : Option Addr) (cc : Nat) (ha : a.ok) (hr : AcctR A a lo lc co cc) :
    Fn Tryz.prog 101 [.agg (acctV a lo lc co cc).toArray] [A] (Ret fun v L => v = .bool (acctRight a) ∧ L = [A]) := by
  have hnl := ha.nl
  have hnc := ha.nc
  have hb := ha.bits
  refine Fn.intro Tryz.call101 Tryz.func101 rfl Tryz.ntmps101 rfl ?_; intro g w Q hQ H
  refine sq ?_; intro K1 hK1; refine wp_region_lit ?_; refine xbx H rfl rfl ?_; intro b1 w H; refine xas rfl ?_; refine wpList_nil ?_
  refine tn ?_; refine hK1 _ _ ?_; clear hK1 K1; refine sq ?_; intro K2 hK2; refine sq ?_; intro K3 hK3; refine wp_region_lit ?_; refine xfa rfl ?_
  refine xldb 0 H rfl rfl rfl ?_
  refine xc [] H ((c_tenant a.tenant)) rfl rfl rfl rfl rfl ?_; rintro _ _ w ⟨rfl, rfl⟩ H; replace H := H.ap rfl
  refine xnt rfl ?_; refine xmv rfl ?_; refine jor (b := ?b1) 5 15 [16, 17, 18, 19] 20 rfl rfl H (fun hhc1 hc1 => ?a1) (fun hhc1 hc1 => ?o1) ?_
  case a1 =>
    refine xgy rfl rfl rfl ?_; refine xfa rfl ?_; refine xgy rfl rfl rfl ?_
    refine xldb 0 H rfl rfl rfl ?_
    refine xgy rfl rfl rfl ?_
    refine xc [] H ((c_aplain a.bits hb)) rfl rfl rfl rfl rfl ?_; rintro _ _ w ⟨rfl, rfl⟩ H; replace H := H.ap rfl
    refine xgy rfl rfl rfl ?_; refine xnt rfl ?_; refine xpkf rfl rfl ?_; exact hc1 _ _ _ _ _ H
  case o1 =>
    refine xgn rfl rfl rfl ?_; refine xgn rfl rfl rfl ?_; refine xgn rfl rfl rfl ?_; refine xgn rfl rfl rfl ?_; refine xpkt rfl rfl ?_; exact hc1 _ _ _ _ _ H
  intro u16 u17 u18 u19 w H; refine wpList_nil ?_; refine tn ?_; refine hK3 _ _ ?_; clear hK3 K3
  refine if_ rfl (fun h1 => ?_) (fun h1 => ?_)
  · have h1' : (tenantOk a.tenant && rplain a.bits) = false := by cases h : tenantOk a.tenant <;> cases h' : rplain a.bits <;> simp [h, h'] at h1 ⊢
    refine sq ?_; intro K4 hK4; refine wp_region_lit ?_; refine xas rfl ?_; refine wpList_nil ?_; refine tn ?_; refine hK4 _ _ ?_; clear hK4 K4; refine wp_ret ?_
    refine tr ?_; clear hK2 K2
    replace H := H.keeps [1] rfl; refine hQ _ _ _ ?_; refine r1 rfl rfl H ?_
    unfold acctRight; rw [h1']; exact ⟨rfl, rfl⟩
  · have h1' : (tenantOk a.tenant && rplain a.bits) = true := by cases h : tenantOk a.tenant <;> cases h' : rplain a.bits <;> simp [h, h'] at h1 ⊢
    refine wp_skip ?_; refine tn ?_; refine hK2 _ _ ?_; clear hK2 K2; refine sq ?_; intro K4 hK4; refine wp_region_lit ?_; refine xfa rfl ?_
    refine xldb 0 H rfl rfl rfl ?_
    refine xas rfl ?_; refine xas rfl ?_; refine wpList_nil ?_; refine tn ?_; refine hK4 _ _ ?_; clear hK4 K4; refine sq ?_; intro K5 hK5; refine sq ?_; intro K6 hK6
    refine wp_region_lit ?_; refine xfa rfl ?_
    refine xldb 0 H rfl rfl rfl ?_
    refine xli rfl ?_; refine xmv rfl ?_; refine wpList_nil ?_; refine tn ?_; refine hK6 _ _ ?_; clear hK6 K6; refine wp_block ?_
    refine lp3 (α := Nat) (β := Nat) (γ := Nat) (fun j u last => [(1, .pointer (some ⟨b1, 0, none⟩)), (3, .int .u64 u), (4, .int .u64 last), (24, .slice lo a.leases.length lc), (25, .int .i64 a.leases.length), (26, .int .i64 j)]) (fun j u last => [blk b1 (acctV a lo lc co cc) acctT, A]) (fun j u last => u < 18446744073709551616 ∧ last < 18446744073709551616 ∧ leasesR a.used 0 a.leases = leasesR u last (a.leases.drop j) ∧ j ≤ a.leases.length) (fun j u last => a.leases.length - j) (0) (a.used) (0) ⟨rfl, rfl, rfl, rfl, rfl, rfl, True.intro⟩ (⟨ha.used, by decide, by simp, Nat.zero_le _⟩) H ?_; intro j u last ρ w hI H K7 hK7
    obtain ⟨hu, hla, hle, hj⟩ := hI
    refine sq ?_; intro K8 hK8; refine wp_region_lit ?_; refine xlt rfl rfl ?_; refine wpList_nil ?_; refine tn ?_; refine hK8 _ _ ?_; clear hK8 K8
    refine sq ?_; intro K9 hK9
    refine if_ rfl (fun k1 => ?_) (fun k1 => ?_)
    · have k1 : j < a.leases.length := by simpa using k1
      have hg : a.leases[j]? = some a.leases[j] := List.getElem?_eq_getElem k1
      have hd : a.leases.drop j = a.leases[j] :: a.leases.drop (j + 1) := List.drop_eq_getElem_cons k1
      have hok := ha.leases _ (List.getElem_mem k1)
      rw [hd, leasesR_cons] at hle
      generalize a.leases[j] = o at hg hok hle
      refine wp_skip ?_; refine tn ?_; refine hK9 _ _ ?_; clear hK9 K9; refine sq ?_; intro K10 hK10; refine wp_block ?_; refine sq ?_; intro K11 hK11
      refine wp_region_lit ?_
      refine xiar hr.l (flat_get leaseV_len hg) (by simp [leaseV]) k1 rfl rfl rfl ?_; intro b28 o28 hx28
      refine xlda 1 H rfl rfl hx28 rfl ?_
      refine xal H ?_; intro b6 w H
      (refine xsta 0 H rfl rfl rfl rfl rfl rfl ?_; intro w H)
      refine wpList_nil ?_; refine tn ?_; refine hK11 _ _ ?_; clear hK11 K11; refine sq ?_; intro K12 hK12; refine sq ?_; intro K13 hK13; refine wp_region_lit ?_
      refine xfa rfl ?_
      refine xldb 0 H rfl rfl rfl ?_
      refine xmv rfl ?_; refine xle rfl rfl ?_; refine xmv rfl ?_; refine jor (b := ?b2) 4 34 [35, 36, 37] 38 rfl rfl H (fun hhc2 hc2 => ?a2) (fun hhc2 hc2 => ?o2) ?_
      case a2 =>
        refine xgy rfl rfl rfl ?_; refine xfa rfl ?_; refine xgy rfl rfl rfl ?_
        refine xldb 0 H rfl rfl rfl ?_
        refine xgy rfl rfl rfl ?_; refine xeq rfl rfl ?_; refine xpkf rfl rfl ?_; exact hc2 _ _ _ _ H
      case o2 =>
        refine xgn rfl rfl rfl ?_; refine xgn rfl rfl rfl ?_; refine xgn rfl rfl rfl ?_; refine xpkt rfl rfl ?_; exact hc2 _ _ _ _ H
      intro u35 u36 u37 w H; refine xmv rfl ?_; refine jor (b := ?b3) 5 39 [40, 41, 42, 43] 44 rfl rfl H (fun hhc3 hc3 => ?a3) (fun hhc3 hc3 => ?o3) ?_
      case a3 =>
        refine xgy rfl rfl rfl ?_; refine xmv rfl ?_; refine xgy rfl rfl rfl ?_; refine xfa rfl ?_; refine xgy rfl rfl rfl ?_
        refine xldb 0 H rfl rfl rfl ?_
        refine xgy rfl rfl rfl ?_
        refine xc [] H ((c_over u o.size hu hok.2)) rfl rfl rfl rfl rfl ?_; rintro _ _ w ⟨rfl, rfl⟩ H; replace H := H.ap rfl
        refine xpkf rfl rfl ?_; exact hc3 _ _ _ _ _ H
      case o3 =>
        refine xgn rfl rfl rfl ?_; refine xgn rfl rfl rfl ?_; refine xgn rfl rfl rfl ?_; refine xgn rfl rfl rfl ?_; refine xpkt rfl rfl ?_; exact hc3 _ _ _ _ _ H
      intro u40 u41 u42 u43 w H; refine wpList_nil ?_; refine tn ?_; refine hK13 _ _ ?_; clear hK13 K13
      refine if_ rfl (fun k2 => ?_) (fun k2 => ?_)
      · have k2 : leaseBad u last o = true := k2
        refine sq ?_; intro K14 hK14; refine wp_region_lit ?_; refine xas rfl ?_; refine wpList_nil ?_; refine tn ?_; refine hK14 _ _ ?_; clear hK14 K14
        refine wp_ret ?_; refine tr ?_; clear hK12 K12; refine br ?_; refine tr ?_; clear hK10 K10; refine tr ?_; clear hK7 K7; refine br ?_; refine tr ?_; clear hK5 K5
        replace H := H.keeps [2] rfl; refine hQ _ _ _ ?_; refine r1 rfl rfl H ?_
        unfold acctRight; rw [hle, k2]; simp
      · have k2 : leaseBad u last o = false := k2
        rw [k2] at hle
        refine wp_skip ?_; refine tn ?_; refine hK12 _ _ ?_; clear hK12 K12; refine sq ?_; intro K14 hK14; refine wp_region_lit ?_; refine xmv rfl ?_; refine xfa rfl ?_
        refine xldb 0 H rfl rfl rfl ?_
        refine xadm_u64 rfl rfl ?_
        refine xas rfl ?_; refine wpList_nil ?_; refine tn ?_; refine hK14 _ _ ?_; clear hK14 K14; refine wp_region_lit ?_; refine xfa rfl ?_
        refine xldb 0 H rfl rfl rfl ?_
        refine xas rfl ?_; refine wpList_nil ?_; refine bn ?_; refine tn ?_; refine hK10 _ _ ?_; clear hK10 K10; refine wp_region_lit ?_
        refine xadi rfl rfl (wi64 (by omega)) ?_
        refine xmv rfl ?_; refine wpList_nil ?_
        replace H := H.keeps [1, 1] rfl
        refine tn ?_; refine hK7 _ _ (j + 1) ((u + o.size) % 18446744073709551616) (o.id) ⟨rfl, rfl, rfl, rfl, rfl, rfl, True.intro⟩ ?_ H ?_
        · exact ⟨Nat.mod_lt _ (by decide), hok.1, by simpa using hle, k1⟩
        · omega
    · have k1 : j = a.leases.length := by have := of_decide_eq_false k1; omega
      subst k1
      rw [List.drop_length, leasesR_nil] at hle
      refine wp_exit ?_; refine te ?_; clear hK9 K9; refine te ?_; clear hK7 K7; refine be ?_; refine tn ?_; refine hK5 _ _ ?_; clear hK5 K5
      refine sq ?_; intro K10 hK10; refine sq ?_; intro K11 hK11; refine wp_region_lit ?_; refine xfa rfl ?_
      refine xldb 0 H rfl rfl rfl ?_
      refine xgt rfl rfl ?_; refine xmv rfl ?_; refine jor (b := ?b4) 8 55 [56, 57, 58, 59, 60, 61, 62] 63 rfl rfl H (fun hhc4 hc4 => ?a4) (fun hhc4 hc4 => ?o4) ?_
      case a4 =>
        refine xgy rfl rfl rfl ?_; refine xfa rfl ?_; refine xgy rfl rfl rfl ?_
        refine xldb 0 H rfl rfl rfl ?_
        refine xgy rfl rfl rfl ?_; refine xli rfl ?_; refine xgy rfl rfl rfl ?_
        refine xcvi rfl (wu64 (by omega)) ?_
        refine xgy rfl rfl rfl ?_; refine xfa rfl ?_; refine xgy rfl rfl rfl ?_
        refine xldb 0 H rfl rfl rfl ?_
        refine xgy rfl rfl rfl ?_; refine xne rfl rfl ?_; refine xpkf rfl rfl ?_; exact hc4 _ _ _ _ _ _ _ _ H
      case o4 =>
        refine xgn rfl rfl rfl ?_; refine xgn rfl rfl rfl ?_; refine xgn rfl rfl rfl ?_; refine xgn rfl rfl rfl ?_; refine xgn rfl rfl rfl ?_; refine xgn rfl rfl rfl ?_
        refine xgn rfl rfl rfl ?_; refine xpkt rfl rfl ?_; exact hc4 _ _ _ _ _ _ _ _ H
      intro u56 u57 u58 u59 u60 u61 u62 w H; refine wpList_nil ?_; refine tn ?_; refine hK11 _ _ ?_; clear hK11 K11
      refine if_ rfl (fun h2 => ?_) (fun h2 => ?_)
      · refine sq ?_; intro K12 hK12; refine wp_region_lit ?_; refine xas rfl ?_; refine wpList_nil ?_; refine tn ?_; refine hK12 _ _ ?_; clear hK12 K12
        refine wp_ret ?_; refine tr ?_; clear hK10 K10
        replace H := H.keeps [1] rfl; refine hQ _ _ _ ?_; refine r1 rfl rfl H ?_
        unfold acctRight; rw [h2]; simp
      · refine wp_skip ?_; refine tn ?_; refine hK10 _ _ ?_; clear hK10 K10; refine sq ?_; intro K12 hK12; refine sq ?_; intro K13 hK13; refine wp_region_lit ?_
        refine xfa rfl ?_
        refine xldb 0 H rfl rfl rfl ?_
        refine xli rfl ?_; refine xmv rfl ?_; refine wpList_nil ?_; refine tn ?_; refine hK13 _ _ ?_; clear hK13 K13; refine wp_block ?_
        refine lp (α := Nat) (fun i => [(1, .pointer (some ⟨b1, 0, none⟩)), (65, .slice co a.closed.length cc), (66, .int .i64 a.closed.length), (67, .int .i64 i)]) (fun i => [blk b1 (acctV a lo lc co cc) acctT, A]) (fun i => stmtsR a.tenant 0 a.closed = stmtsR a.tenant i (a.closed.drop i) ∧ i ≤ a.closed.length) (fun i => a.closed.length - i) (0) ⟨rfl, rfl, rfl, rfl, True.intro⟩ (⟨by simp, Nat.zero_le _⟩) H ?_; intro i ρ w hI H K14 hK14
        obtain ⟨hst, hi⟩ := hI
        refine sq ?_; intro K15 hK15; refine wp_region_lit ?_; refine xlt rfl rfl ?_; refine wpList_nil ?_; refine tn ?_; refine hK15 _ _ ?_; clear hK15 K15
        refine sq ?_; intro K16 hK16
        refine if_ rfl (fun k3 => ?_) (fun k3 => ?_)
        · have k3 : i < a.closed.length := by simpa using k3
          have hg : a.closed[i]? = some a.closed[i] := List.getElem?_eq_getElem k3
          have hd : a.closed.drop i = a.closed[i] :: a.closed.drop (i + 1) := List.drop_eq_getElem_cons k3
          have hok := ha.closed _ (List.getElem_mem k3)
          rw [hd, stmtsR_cons] at hst
          generalize a.closed[i] = s at hg hok hst
          refine wp_skip ?_; refine tn ?_; refine hK16 _ _ ?_; clear hK16 K16; refine sq ?_; intro K17 hK17; refine wp_block ?_; refine sq ?_; intro K18 hK18
          refine wp_region_lit ?_; refine xmv rfl ?_
          refine xiar hr.c (flat_get stmtV_len hg) (by simp [stmtV]) k3 rfl rfl rfl ?_; intro b70 o70 hx70
          refine xlda 1 H rfl rfl hx70 rfl ?_
          refine xal H ?_; intro b8 w H; refine xas rfl ?_
          (refine xsta 0 H rfl rfl rfl rfl rfl rfl ?_; intro w H)
          refine wpList_nil ?_; refine tn ?_; refine hK18 _ _ ?_; clear hK18 K18; refine sq ?_; intro K19 hK19; refine wp_region_lit ?_; refine xfa rfl ?_
          refine xldb 0 H rfl rfl rfl ?_
          refine xfa rfl ?_
          refine xldb 0 H rfl rfl rfl ?_
          by_cases hf : fPrice s.bits = true
          · refine xc [2] H ((c_due_t hT hok.2.1 hok.2.2.2.1 hf)) rfl rfl rfl rfl rfl ?_; rintro _ _ w ⟨rfl, rfl⟩ H; replace H := H.ap rfl
            refine xmv rfl ?_; refine xex rfl rfl ?_; refine xex rfl rfl ?_; refine xas rfl ?_; refine xas rfl ?_; refine wpList_nil ?_
            refine tn ?_; refine hK19 _ _ ?_; clear hK19 K19; refine sq ?_; intro K20 hK20; refine sq ?_; intro K21 hK21; refine wp_region_lit ?_; refine xmv rfl ?_
            refine xne rfl rfl ?_; refine xmv rfl ?_; refine jor (b := ?b5) 5 82 [83, 84, 85, 86] 87 rfl rfl H (fun hhc5 hc5 => ?a5) (fun hhc5 hc5 => ?o5) ?_
            case a5 =>
              refine xgy rfl rfl rfl ?_; refine xmv rfl ?_; refine xgy rfl rfl rfl ?_; refine xfa rfl ?_; refine xgy rfl rfl rfl ?_
              refine xldb 1 H rfl rfl rfl ?_
              refine xgy rfl rfl rfl ?_; refine xne rfl rfl ?_; refine xpkf rfl rfl ?_; exact hc5 _ _ _ _ _ H
            case o5 =>
              refine xgn rfl rfl rfl ?_; refine xgn rfl rfl rfl ?_; refine xgn rfl rfl rfl ?_; refine xgn rfl rfl rfl ?_; refine xpkt rfl rfl ?_; exact hc5 _ _ _ _ _ H
            intro u83 u84 u85 u86 w H; refine xmv rfl ?_; refine jor (b := ?b6) 5 88 [89, 90, 91, 92] 93 rfl rfl H (fun hhc6 hc6 => ?a6) (fun hhc6 hc6 => ?o6) ?_
            case a6 =>
              refine xgy rfl rfl rfl ?_; refine xfa rfl ?_; refine xgy rfl rfl rfl ?_
              refine xldb 1 H rfl rfl rfl ?_
              refine xgy rfl rfl rfl ?_
              refine xc [] H ((c_aplain s.bits hok.2.2.2.1)) rfl rfl rfl rfl rfl ?_; rintro _ _ w ⟨rfl, rfl⟩ H; replace H := H.ap rfl
              refine xgy rfl rfl rfl ?_; refine xnt rfl ?_; refine xpkf rfl rfl ?_; exact hc6 _ _ _ _ _ H
            case o6 =>
              refine xgn rfl rfl rfl ?_; refine xgn rfl rfl rfl ?_; refine xgn rfl rfl rfl ?_; refine xgn rfl rfl rfl ?_; refine xpkt rfl rfl ?_; exact hc6 _ _ _ _ _ H
            intro u89 u90 u91 u92 w H; refine wpList_nil ?_; refine tn ?_; refine hK21 _ _ ?_; clear hK21 K21
            refine if_ rfl (fun k4 => ?_) (fun k4 => ?_)
            · have k4' : (!fPrice s.bits || ((dueOf s.used s.bits : Int) != (s.due : Int)) || !rplain s.bits) = true := by unfold dueOf; rw [if_pos hf, hf]; exact k4
              refine sq ?_; intro K22 hK22; refine wp_region_lit ?_; refine xas rfl ?_; refine wpList_nil ?_; refine tn ?_; refine hK22 _ _ ?_; clear hK22 K22
              refine wp_ret ?_; refine tr ?_; clear hK20 K20; refine br ?_; refine tr ?_; clear hK17 K17; refine tr ?_; clear hK14 K14; refine br ?_
              refine tr ?_; clear hK12 K12
              replace H := H.keeps [0] rfl; refine hQ _ _ _ ?_; refine r1 rfl rfl H ?_
              unfold acctRight stmtBad at *; rw [hst, k4']; simp
            · have k4' : (!fPrice s.bits || ((dueOf s.used s.bits : Int) != (s.due : Int)) || !rplain s.bits) = false := by unfold dueOf; rw [if_pos hf, hf]; exact k4
              refine wp_skip ?_; refine tn ?_; refine hK20 _ _ ?_; clear hK20 K20; refine sq ?_; intro K22 hK22; refine wp_region_lit ?_; refine xfa rfl ?_
              refine xldb 1 H rfl rfl rfl ?_
              refine xfa rfl ?_
              refine xldb 2 H rfl rfl rfl ?_
              refine xsneS rfl rfl ?_
              refine xmv rfl ?_; refine jor (b := ?b7) 6 99 [100, 101, 102, 103, 104] 105 rfl rfl H (fun hhc7 hc7 => ?a7) (fun hhc7 hc7 => ?o7) ?_
              case a7 =>
                refine xgy rfl rfl rfl ?_; refine xfa rfl ?_; refine xgy rfl rfl rfl ?_
                refine xldb 1 H rfl rfl rfl ?_
                refine xgy rfl rfl rfl ?_; refine xmv rfl ?_; refine xgy rfl rfl rfl ?_
                refine xcvi rfl (wu64 (by omega)) ?_
                refine xgy rfl rfl rfl ?_; refine xne rfl rfl ?_; refine xpkf rfl rfl ?_; exact hc7 _ _ _ _ _ _ H
              case o7 =>
                refine xgn rfl rfl rfl ?_; refine xgn rfl rfl rfl ?_; refine xgn rfl rfl rfl ?_; refine xgn rfl rfl rfl ?_; refine xgn rfl rfl rfl ?_; refine xpkt rfl rfl ?_
                exact hc7 _ _ _ _ _ _ H
              intro u100 u101 u102 u103 u104 w H; refine wpList_nil ?_; refine tn ?_; refine hK22 _ _ ?_; clear hK22 K22
              refine if_ rfl (fun k5 => ?_) (fun k5 => ?_)
              · refine sq ?_; intro K23 hK23; refine wp_region_lit ?_; refine xas rfl ?_; refine wpList_nil ?_; refine tn ?_; refine hK23 _ _ ?_; clear hK23 K23
                refine wp_ret ?_; refine br ?_; refine tr ?_; clear hK17 K17; refine tr ?_; clear hK14 K14; refine br ?_; refine tr ?_; clear hK12 K12
                replace H := H.keeps [0] rfl; refine hQ _ _ _ ?_; refine r1 rfl rfl H ?_
                unfold acctRight; rw [hst]; unfold stmtBad; rw [k4', k5]; simp
              · refine wp_skip ?_; refine bn ?_; refine tn ?_; refine hK17 _ _ ?_; clear hK17 K17; refine wp_region_lit ?_
                refine xadi rfl rfl (wi64 (by omega)) ?_
                refine xmv rfl ?_; refine wpList_nil ?_
                replace H := H.keeps [2, 0] rfl
                refine tn ?_; refine hK14 _ _ (i + 1) ⟨rfl, rfl, rfl, rfl, True.intro⟩ ?_ H ?_
                · refine ⟨?_, k3⟩
                  rw [hst]; unfold stmtBad; rw [k4', k5]; rfl
                · omega
          · refine xc [2] H ((c_due_f hT hok.2.1 hok.2.2.2.1 hf)) rfl rfl rfl rfl rfl ?_; rintro _ _ w ⟨rfl, rfl⟩ H; replace H := H.ap rfl
            refine xmv rfl ?_; refine xex rfl rfl ?_; refine xex rfl rfl ?_; refine xas rfl ?_; refine xas rfl ?_; refine wpList_nil ?_
            refine tn ?_; refine hK19 _ _ ?_; clear hK19 K19; refine sq ?_; intro K20 hK20; refine sq ?_; intro K21 hK21; refine wp_region_lit ?_; refine xmv rfl ?_
            refine xne rfl rfl ?_; refine xmv rfl ?_; refine jor (b := ?b8) 5 82 [83, 84, 85, 86] 87 rfl rfl H (fun hhc8 hc8 => ?a8) (fun hhc8 hc8 => ?o8) ?_
            case a8 =>
              refine xgy rfl rfl rfl ?_; refine xmv rfl ?_; refine xgy rfl rfl rfl ?_; refine xfa rfl ?_; refine xgy rfl rfl rfl ?_
              refine xldb 1 H rfl rfl rfl ?_
              refine xgy rfl rfl rfl ?_; refine xne rfl rfl ?_; refine xpkf rfl rfl ?_; exact hc8 _ _ _ _ _ H
            case o8 =>
              refine xgn rfl rfl rfl ?_; refine xgn rfl rfl rfl ?_; refine xgn rfl rfl rfl ?_; refine xgn rfl rfl rfl ?_; refine xpkt rfl rfl ?_; exact hc8 _ _ _ _ _ H
            intro u83 u84 u85 u86 w H; refine xmv rfl ?_; refine jor (b := ?b9) 5 88 [89, 90, 91, 92] 93 rfl rfl H (fun hhc9 hc9 => ?a9) (fun hhc9 hc9 => ?o9) ?_
            case a9 =>
              refine xgy rfl rfl rfl ?_; refine xfa rfl ?_; refine xgy rfl rfl rfl ?_
              refine xldb 1 H rfl rfl rfl ?_
              refine xgy rfl rfl rfl ?_
              refine xc [] H ((c_aplain s.bits hok.2.2.2.1)) rfl rfl rfl rfl rfl ?_; rintro _ _ w ⟨rfl, rfl⟩ H; replace H := H.ap rfl
              refine xgy rfl rfl rfl ?_; refine xnt rfl ?_; refine xpkf rfl rfl ?_; exact hc9 _ _ _ _ _ H
            case o9 =>
              refine xgn rfl rfl rfl ?_; refine xgn rfl rfl rfl ?_; refine xgn rfl rfl rfl ?_; refine xgn rfl rfl rfl ?_; refine xpkt rfl rfl ?_; exact hc9 _ _ _ _ _ H
            intro u89 u90 u91 u92 w H; refine wpList_nil ?_; refine tn ?_; refine hK21 _ _ ?_; clear hK21 K21; refine ift rfl ?_; refine sq ?_; intro K22 hK22
            refine wp_region_lit ?_; refine xas rfl ?_; refine wpList_nil ?_; refine tn ?_; refine hK22 _ _ ?_; clear hK22 K22; refine wp_ret ?_
            refine tr ?_; clear hK20 K20; refine br ?_; refine tr ?_; clear hK17 K17; refine tr ?_; clear hK14 K14; refine br ?_; refine tr ?_; clear hK12 K12
            replace H := H.keeps [0] rfl; refine hQ _ _ _ ?_; refine r1 rfl rfl H ?_
            unfold acctRight stmtBad at *; rw [hst]; simp [hf]
        · have k3 : i = a.closed.length := by have := of_decide_eq_false k3; omega
          subst k3
          rw [List.drop_length, stmtsR_nil] at hst
          refine wp_exit ?_; refine te ?_; clear hK16 K16; refine te ?_; clear hK14 K14; refine be ?_; refine tn ?_; refine hK12 _ _ ?_; clear hK12 K12
          refine sq ?_; intro K17 hK17; refine wp_region_lit ?_; refine xas rfl ?_; refine wpList_nil ?_; refine tn ?_; refine hK17 _ _ ?_; clear hK17 K17
          refine wp_ret ?_
          replace H := H.keeps [1] rfl; refine hQ _ _ _ ?_; refine r1 rfl rfl H ?_
          unfold acctRight; rw [h1', hle, h2, hst]; exact ⟨rfl, rfl⟩
end Go.Proofs.YtegllbmkkfnajaaGreatDoor
end
section
namespace Go.Proofs.YtegllbmkkfnajaaGreatDoor
open Go Go.Proofs
attribute [local irreducible] Go.wpList Go.Code.wp St Fn mk
set_option maxRecDepth 20000
def strGe (a b : List UInt8) : Bool := !Op.bytesLess a b
def ledRight : List Acct → Option (List UInt8) → Bool
  | [], _ => true
  | a :: l, none => acctRight a && ledRight l (some a.tenant)
  | a :: l, some t => (!strGe t a.tenant && acctRight a) && ledRight l (some a.tenant)
def ledgerRight (l : Ledg) : Bool := decide (l.l.length ≤ 8) && ledRight l.l none
def lastT (l : List Acct) (k : Nat) : Option (List UInt8) := if k = 0 then none else some (tenAt l (k - 1))
theorem c_lright (A : Asn) (hT : Tab A) (l : Ledg) (ps : List AcctP) (ao : Option Addr) (cap : Nat) (hL : LedR A l ps ao cap) :
    Fn Tryz.prog 67 [.agg (ledV l ao cap).toArray] [A] (Ret fun v L => v = .bool (ledgerRight l) ∧ L = [A]) := by
  have hn := hL.n
  have hln := hL.len
  refine Fn.intro Tryz.call67 Tryz.func67 rfl Tryz.ntmps67 rfl ?_; intro g w Q hQ H
  refine sq ?_; intro K1 hK1; refine wp_region_lit ?_; refine xbx H rfl rfl ?_; intro b1 w H; refine xas rfl ?_; refine wpList_nil ?_
  refine tn ?_; refine hK1 _ _ ?_; clear hK1 K1; refine sq ?_; intro K2 hK2; refine sq ?_; intro K3 hK3; refine wp_region_lit ?_; refine xfa rfl ?_
  refine xldb 0 H rfl rfl rfl ?_
  refine xli rfl ?_; refine xgt rfl rfl ?_; refine wpList_nil ?_; refine tn ?_; refine hK3 _ _ ?_; clear hK3 K3
  refine if_ rfl (fun h1 => ?_) (fun h1 => ?_)
  · have h1 : ¬ l.l.length ≤ 8 := by have := of_decide_eq_true h1; omega
    refine sq ?_; intro K4 hK4; refine wp_region_lit ?_; refine xas rfl ?_; refine wpList_nil ?_; refine tn ?_; refine hK4 _ _ ?_; clear hK4 K4; refine wp_ret ?_
    refine tr ?_; clear hK2 K2
    replace H := H.keeps [1] rfl; refine hQ _ _ _ ?_; refine r1 rfl rfl H ?_
    unfold ledgerRight; simp [h1]
  · have h1 : l.l.length ≤ 8 := by have := of_decide_eq_false h1; omega
    refine wp_skip ?_; refine tn ?_; refine hK2 _ _ ?_; clear hK2 K2; refine sq ?_; intro K4 hK4; refine sq ?_; intro K5 hK5; refine wp_region_lit ?_
    refine xfa rfl ?_
    refine xldb 0 H rfl rfl rfl ?_
    refine xli rfl ?_; refine xmv rfl ?_; refine wpList_nil ?_; refine tn ?_; refine hK5 _ _ ?_; clear hK5 K5; refine wp_block ?_
    refine lp (α := Nat) (fun k => [(1, .pointer (some ⟨b1, 0, none⟩)), (10, .slice ao l.l.length cap), (11, .int .i64 l.l.length), (12, .int .i64 k)]) (fun k => [blk b1 (ledV l ao cap) ledT, A]) (fun k => ledRight l.l none = ledRight (l.l.drop k) (lastT l.l k) ∧ k ≤ l.l.length) (fun k => l.l.length - k) (0) ⟨rfl, rfl, rfl, rfl, True.intro⟩ (⟨by simp [lastT], Nat.zero_le _⟩) H ?_; intro k ρ w hI H K6 hK6
    obtain ⟨hr, hk⟩ := hI
    refine sq ?_; intro K7 hK7; refine wp_region_lit ?_; refine xlt rfl rfl ?_; refine wpList_nil ?_; refine tn ?_; refine hK7 _ _ ?_; clear hK7 K7
    refine sq ?_; intro K8 hK8
    refine if_ rfl (fun k1 => ?_) (fun k1 => ?_)
    · have k1 : k < l.l.length := by simpa using k1
      obtain ⟨p, hg, hpe, hpok, hpr⟩ := hL.at k1
      refine wp_skip ?_; refine tn ?_; refine hK8 _ _ ?_; clear hK8 K8; refine sq ?_; intro K9 hK9; refine wp_block ?_; refine sq ?_; intro K10 hK10
      refine wp_region_lit ?_; refine xmv rfl ?_
      refine xiar hL.rd (flat_get AcctP.len hg) (by simp [AcctP.v, acctV]) k1 rfl rfl rfl ?_; intro b15 o15 hx15
      refine xlda 1 H rfl rfl hx15 rfl ?_
      refine xal H ?_; intro b4 w H; refine xas rfl ?_
      (refine xsta 0 H rfl rfl rfl rfl rfl rfl ?_; intro w H)
      refine wpList_nil ?_; refine tn ?_; refine hK10 _ _ ?_; clear hK10 K10; refine sq ?_; intro K11 hK11
      refine drws (m := 19) 100000 rfl rfl H ?_; clear H; intro w H; refine dt' 0 rfl (by kernel_rfl) H (ymv rfl) ?_
      refine dt' 1 rfl (by kernel_rfl) H (ygt rfl rfl) ?_; refine dt' 2 rfl (by kernel_rfl) H (ymv rfl) ?_
      refine gspH 19 rfl (fun k2 => ?_) (fun k2 => ?_)
      · have k2 : 0 < k := by have := of_decide_eq_true k2; omega
        obtain ⟨q, hgq, hqe, _, _⟩ := hL.at (show k - 1 < l.l.length by omega)
        refine dgy 3 rfl rfl rfl rfl (by kernel_rfl) H (fun w _ => (yfa rfl) w) ?_
        refine dgy 4 rfl rfl rfl rfl (by kernel_rfl) H (zldb 1 rfl rfl rfl) ?_
        refine dgy 5 rfl rfl rfl rfl (by kernel_rfl) H (fun w _ => (ymv rfl) w) ?_
        refine dgy 6 rfl rfl rfl rfl (by kernel_rfl) H (fun w _ => (ysbi rfl rfl (wi64 (by omega))) w) ?_
        refine dgy 10 rfl rfl rfl rfl (by kernel_rfl) H (fun w _ => (yfa rfl) w) ?_
        refine dgy 11 rfl rfl rfl rfl (by kernel_rfl) H (zldb 0 rfl rfl rfl) ?_
        refine do1 7 rfl (by kernel_rfl) ?_; intro K12 hK12; refine xgy rfl rfl rfl ?_
        rw [show ((k : Int) - 1) = ((k - 1 : Nat) : Int) by omega]
        refine xiar hL.rd (flat_get AcctP.len hgq) (by simp [AcctP.v, acctV]) (show k - 1 < l.l.length by omega) rfl rfl rfl ?_; intro b24 o24 hx24
        refine wpList_nil ?_; refine tn ?_; refine hK12 _ _ (fun _ => H) ?_; clear hK12 K12; refine dgy 8 rfl rfl rfl rfl (by kernel_rfl) H (fun w _ => (yfa rfl) w) ?_
        refine dgy 9 rfl rfl rfl rfl (by kernel_rfl) H (zld 2 rfl rfl (hx24 _ _ rfl)) ?_
        refine dgy 12 rfl rfl rfl rfl (by kernel_rfl) H (fun w _ => (ysge rfl rfl) w) ?_; refine dt' 13 rfl (by kernel_rfl) H (ypkt rfl rfl) ?_
        refine dt' 14 rfl (by kernel_rfl) H (ymv rfl) ?_
        have hdk : l.l.drop k = p.a :: l.l.drop (k + 1) := by rw [List.drop_eq_getElem_cons k1, hpe]; unfold acctAt; rw [List.getElem?_eq_getElem k1]
        have hlt : lastT l.l k = some q.a.tenant := by
          unfold lastT; rw [if_neg (by omega), hqe]; unfold tenAt acctAt; rw [List.getElem?_eq_getElem (show k - 1 < l.l.length by omega)]
        have hlt2 : lastT l.l (k + 1) = some p.a.tenant := by
          unfold lastT; rw [if_neg (by omega), hpe]; unfold tenAt acctAt; rw [Nat.add_sub_cancel, List.getElem?_eq_getElem k1]
        rw [hdk, hlt] at hr
        refine gspH 31 rfl (fun k3 => ?_) (fun k3 => ?_)
        · have k3 : strGe q.a.tenant p.a.tenant = true := k3
          refine dgn 15 rfl rfl rfl rfl (by kernel_rfl) H ?_; refine dgn 16 rfl rfl rfl rfl (by kernel_rfl) H ?_; refine dgn 17 rfl rfl rfl rfl (by kernel_rfl) H ?_
          refine dt' 18 rfl (by kernel_rfl) H (ypkt rfl rfl) ?_; refine dd (by kernel_rfl) ?_; refine tn ?_; refine hK11 _ _ ?_; clear hK11 K11; refine ift rfl ?_
          refine sq ?_; intro K13 hK13; refine wp_region_lit ?_; refine xas rfl ?_; refine wpList_nil ?_; refine tn ?_; refine hK13 _ _ ?_; clear hK13 K13
          refine wp_ret ?_; refine br ?_; refine tr ?_; clear hK9 K9; refine tr ?_; clear hK6 K6; refine br ?_; refine tr ?_; clear hK4 K4
          replace H := H.keeps [2] rfl; refine hQ _ _ _ ?_; refine r1 rfl rfl H ?_
          unfold ledgerRight; rw [hr]; simp [ledRight, k3]
        · have k3 : strGe q.a.tenant p.a.tenant = false := k3
          refine dgy 15 rfl rfl rfl rfl (by kernel_rfl) H (zldab 0 rfl rfl rfl rfl) ?_
          refine do1 16 rfl (by kernel_rfl) ?_; intro K13 hK13; refine xgy rfl rfl rfl ?_
          refine xc [2] H ((c_aright A hT p.a p.lo p.lc p.co p.cc hpok hpr)) rfl rfl rfl rfl rfl ?_; rintro _ _ w ⟨rfl, rfl⟩ H; replace H := H.ap rfl
          refine wpList_nil ?_; refine tn ?_; refine hK13 _ _ (fun _ => (H.keeps [1, 1, 0] rfl)) ?_; clear hK13 K13
          refine dgy 17 rfl rfl rfl rfl (by kernel_rfl) (H.keeps [1, 1, 0] rfl) (fun w _ => (ynt rfl) w) ?_
          refine dt' 18 rfl (by kernel_rfl) (H.keeps [1, 1, 0] rfl) (ypkf rfl rfl) ?_; refine dd (by kernel_rfl) ?_; refine tn ?_; refine hK11 _ _ ?_; clear hK11 K11
          refine if_ rfl (fun k4 => ?_) (fun k4 => ?_)
          · have k4 : acctRight p.a = false := by simpa using k4
            refine sq ?_; intro K14 hK14; refine wp_region_lit ?_; refine xas rfl ?_; refine wpList_nil ?_; refine tn ?_; refine hK14 _ _ ?_; clear hK14 K14
            refine wp_ret ?_; refine br ?_; refine tr ?_; clear hK9 K9; refine tr ?_; clear hK6 K6; refine br ?_; refine tr ?_; clear hK4 K4
            replace H := H.keeps [0] rfl; refine hQ _ _ _ ?_; refine r1 rfl rfl H ?_
            unfold ledgerRight; rw [hr]; simp [ledRight, k4]
          · have k4 : acctRight p.a = true := by simpa using k4
            refine wp_skip ?_; refine bn ?_; refine tn ?_; refine hK9 _ _ ?_; clear hK9 K9; refine wp_region_lit ?_
            refine xadi rfl rfl (wi64 (by omega)) ?_
            refine xmv rfl ?_; refine wpList_nil ?_
            replace H := H.keeps [2, 0] rfl
            refine tn ?_; refine hK6 _ _ (k + 1) ⟨rfl, rfl, rfl, rfl, True.intro⟩ ?_ H ?_
            · refine ⟨?_, k1⟩; rw [hr, hlt2]; simp [ledRight, k3, k4]
            · omega
      · have k2 : k = 0 := by have := of_decide_eq_false k2; omega
        have hdk : l.l.drop k = p.a :: l.l.drop (k + 1) := by rw [List.drop_eq_getElem_cons k1, hpe]; unfold acctAt; rw [List.getElem?_eq_getElem k1]
        have hlt : lastT l.l k = none := by unfold lastT; rw [if_pos k2]
        have hlt2 : lastT l.l (k + 1) = some p.a.tenant := by
          unfold lastT; rw [if_neg (by omega), hpe]; unfold tenAt acctAt; rw [Nat.add_sub_cancel, List.getElem?_eq_getElem k1]
        rw [hdk, hlt] at hr
        refine dgn 3 rfl rfl rfl rfl (by kernel_rfl) H ?_; refine dgn 4 rfl rfl rfl rfl (by kernel_rfl) H ?_; refine dgn 5 rfl rfl rfl rfl (by kernel_rfl) H ?_
        refine dgn 6 rfl rfl rfl rfl (by kernel_rfl) H ?_; refine dgn 7 rfl rfl rfl rfl (by kernel_rfl) H ?_; refine dgn 8 rfl rfl rfl rfl (by kernel_rfl) H ?_
        refine dgn 9 rfl rfl rfl rfl (by kernel_rfl) H ?_; refine dgn 10 rfl rfl rfl rfl (by kernel_rfl) H ?_; refine dgn 11 rfl rfl rfl rfl (by kernel_rfl) H ?_
        refine dgn 12 rfl rfl rfl rfl (by kernel_rfl) H ?_; refine dt' 13 rfl (by kernel_rfl) H (ypkf rfl rfl) ?_; refine dt' 14 rfl (by kernel_rfl) H (ymv rfl) ?_
        refine dgy 15 rfl rfl rfl rfl (by kernel_rfl) H (zldab 0 rfl rfl rfl rfl) ?_
        refine do1 16 rfl (by kernel_rfl) ?_; intro K12 hK12; refine xgy rfl rfl rfl ?_
        refine xc [2] H ((c_aright A hT p.a p.lo p.lc p.co p.cc hpok hpr)) rfl rfl rfl rfl rfl ?_; rintro _ _ w ⟨rfl, rfl⟩ H; replace H := H.ap rfl
        refine wpList_nil ?_; refine tn ?_; refine hK12 _ _ (fun _ => (H.keeps [1, 1, 0] rfl)) ?_; clear hK12 K12
        refine dgy 17 rfl rfl rfl rfl (by kernel_rfl) (H.keeps [1, 1, 0] rfl) (fun w _ => (ynt rfl) w) ?_
        refine dt' 18 rfl (by kernel_rfl) (H.keeps [1, 1, 0] rfl) (ypkf rfl rfl) ?_; refine dd (by kernel_rfl) ?_; refine tn ?_; refine hK11 _ _ ?_; clear hK11 K11
        refine if_ rfl (fun k4 => ?_) (fun k4 => ?_)
        · have k4 : acctRight p.a = false := by simpa using k4
          refine sq ?_; intro K13 hK13; refine wp_region_lit ?_; refine xas rfl ?_; refine wpList_nil ?_; refine tn ?_; refine hK13 _ _ ?_; clear hK13 K13
          refine wp_ret ?_; refine br ?_; refine tr ?_; clear hK9 K9; refine tr ?_; clear hK6 K6; refine br ?_; refine tr ?_; clear hK4 K4
          replace H := H.keeps [0] rfl; refine hQ _ _ _ ?_; refine r1 rfl rfl H ?_
          unfold ledgerRight; rw [hr]; simp [ledRight, k4]
        · have k4 : acctRight p.a = true := by simpa using k4
          refine wp_skip ?_; refine bn ?_; refine tn ?_; refine hK9 _ _ ?_; clear hK9 K9; refine wp_region_lit ?_
          refine xadi rfl rfl (wi64 (by omega)) ?_
          refine xmv rfl ?_; refine wpList_nil ?_
          replace H := H.keeps [2, 0] rfl
          refine tn ?_; refine hK6 _ _ (k + 1) ⟨rfl, rfl, rfl, rfl, True.intro⟩ ?_ H ?_
          · refine ⟨?_, k1⟩; rw [hr, hlt2]; simp [ledRight, k4]
          · omega
    · have k1 : k = l.l.length := by have := of_decide_eq_false k1; omega
      subst k1
      refine wp_exit ?_; refine te ?_; clear hK8 K8; refine te ?_; clear hK6 K6; refine be ?_; refine tn ?_; refine hK4 _ _ ?_; clear hK4 K4
      refine sq ?_; intro K9 hK9; refine wp_region_lit ?_; refine xas rfl ?_; refine wpList_nil ?_; refine tn ?_; refine hK9 _ _ ?_; clear hK9 K9; refine wp_ret ?_
      replace H := H.keeps [1] rfl; refine hQ _ _ _ ?_; refine r1 rfl rfl H ?_
      unfold ledgerRight; rw [hr, List.drop_length]; simp [h1, ledRight]
end Go.Proofs.YtegllbmkkfnajaaGreatDoor
end
section
namespace Go.Proofs.YtegllbmkkfnajaaGreatDoor
open Go Go.Proofs
attribute [local irreducible] Go.wpList Go.Code.wp St Fn mk
set_option maxRecDepth 20000
theorem sealB_len (b : List UInt8) : (sealB b).length = b.length + 4 := by unfold sealB; simp [leB_len]
end Go.Proofs.YtegllbmkkfnajaaGreatDoor
end
section
namespace Go.Proofs.YtegllbmkkfnajaaGreatDoor
open Go Go.Proofs
attribute [local irreducible] Go.wpList Go.Code.wp St Fn mk
set_option maxRecDepth 20000
abbrev CurS := Nat × Int
def rdN (bs : List UInt8) (k : Nat) (s : CurS) : Nat × CurS := let a := ctake bs s.1 s.2 k; (le a.1, a.2)
def clist {α : Type} (part : CurS → α × CurS) : Nat → CurS → List α → List α × CurS
  | 0, s, acc => (acc, s)
  | n + 1, s, acc => if (part s).2.2 ≠ 0 then ([], (part s).2) else clist part n (part s).2 (acc ++ [(part s).1])
theorem rdN_le {bs : List UInt8} {k : Nat} {s : CurS} (h : s.1 ≤ bs.length) : (rdN bs k s).2.1 ≤ bs.length := by
  unfold rdN ctake; simp only; split
  · exact h
  split
  · exact h
  · simp only; omega
theorem rdN_ok {bs : List UInt8} {k : Nat} {s : CurS} (h : (rdN bs k s).2.2 = 0) : s.2 = 0 ∧ (rdN bs k s).2.1 = s.1 + k := by
  unfold rdN ctake at *; simp only at *; split at h
  · rename_i h1; exact absurd h h1
  split at h
  · simp at h
  · rename_i h1 h2; rw [if_neg h1, if_neg h2]; exact ⟨by simpa using h1, rfl⟩
def rdLease (bs : List UInt8) (s : CurS) : Lease × CurS := let a := rdN bs 8 s; let b := rdN bs 8 a.2; (⟨a.1, b.1⟩, b.2)
theorem c_rdlease (p : Nat) (bs : List UInt8) (s : CurS) (hlen : bs.length ≤ 1099511627776) (hs : s.1 ≤ bs.length) :
    Fn Tryz.prog 124 [.pointer (some ⟨p, 0, none⟩)] [curs p bs s.1 s.2] (Ret fun v L => v = .agg (leaseV (rdLease bs s).1).toArray ∧ L = [curs p bs (rdLease bs s).2.1 (rdLease bs s).2.2]) := by
  refine Fn.intro Tryz.call124 Tryz.func124 rfl Tryz.ntmps124 rfl ?_; intro g w Q hQ H
  refine sq ?_; intro K1 hK1; refine wp_region_lit ?_; refine xal H ?_; intro b2 w H; refine wpList_nil ?_; refine tn ?_; refine hK1 _ _ ?_; clear hK1 K1
  refine sq ?_; intro K2 hK2; refine wp_region_lit ?_; refine xal H ?_; intro b3 w H; refine wpList_nil ?_; refine tn ?_; refine hK2 _ _ ?_; clear hK2 K2
  refine sq ?_; intro K3 hK3; refine wp_region_lit ?_; refine xmv rfl ?_
  refine xc [2] H ((c_number p bs s.1 s.2 8 hlen hs (by simp))) rfl rfl rfl rfl rfl ?_; rintro _ _ w ⟨rfl, rfl⟩ H; replace H := H.ap rfl
  refine xfa rfl ?_
  (refine xst 1 H rfl rfl rfl rfl rfl ?_; intro w H)
  refine wpList_nil ?_; refine tn ?_; refine hK3 _ _ ?_; clear hK3 K3; refine sq ?_; intro K4 hK4; refine wp_region_lit ?_; refine xmv rfl ?_
  refine xc [1] H ((c_number p bs (rdN bs 8 s).2.1 (rdN bs 8 s).2.2 8 hlen (rdN_le hs) (by simp))) rfl rfl rfl rfl rfl ?_; rintro _ _ w ⟨rfl, rfl⟩ H; replace H := H.ap rfl
  refine xfa rfl ?_
  (refine xst 1 H rfl rfl rfl rfl rfl ?_; intro w H)
  refine wpList_nil ?_; refine tn ?_; refine hK4 _ _ ?_; clear hK4 K4; refine sq ?_; intro K5 hK5; refine wp_region_lit ?_
  refine xldab 0 H rfl rfl rfl rfl ?_
  (refine xsta 2 H rfl rfl rfl rfl rfl rfl ?_; intro w H)
  refine wpList_nil ?_; refine tn ?_; refine hK5 _ _ ?_; clear hK5 K5; refine wp_ret ?_
  refine hQ _ _ _ ?_
  refine rca 0 [2] rfl rfl H rfl (blk_cells (k := 2) rfl rfl) rfl rfl ?_
  exact ⟨rfl, rfl⟩
theorem rdLease_le {bs : List UInt8} {s : CurS} (h : s.1 ≤ bs.length) : (rdLease bs s).2.1 ≤ bs.length := by unfold rdLease; exact rdN_le (rdN_le h)
theorem rdLease_ok {bs : List UInt8} {s : CurS} (h : (rdLease bs s).2.2 = 0) : s.1 + 1 ≤ (rdLease bs s).2.1 := by
  unfold rdLease at *; have h1 := rdN_ok h; have h2 := rdN_ok h1.1; simp only at *; omega
theorem clist_succ {α : Type} (part : CurS → α × CurS) (n : Nat) (s : CurS) (acc : List α) : clist part (n + 1) s acc = if (part s).2.2 ≠ 0 then ([], (part s).2) else clist part n (part s).2 (acc ++ [(part s).1]) := rfl
theorem c_listL (p : Nat) (bs : List UInt8) (s : CurS) (n : Nat) (hn : n < 18446744073709551616) (hlen : bs.length ≤ 1099511627776) (hs : s.1 ≤ bs.length) :
    Fn Tryz.prog 123 [.pointer (some ⟨p, 0, none⟩), .int .u64 n, .func (.func 124) #[] #[]] [curs p bs s.1 s.2]
      (Ret fun v L => ∃ ao cap, v = .slice ao (clist (rdLease bs) n s []).1.length cap ∧ L = [own ao cap leaseT 2 (clist (rdLease bs) n s []).1.length (leasesV (clist (rdLease bs) n s []).1), curs p bs (clist (rdLease bs) n s []).2.1 (clist (rdLease bs) n s []).2.2]) := by
  obtain ⟨R, hR⟩ : ∃ R, clist (rdLease bs) n s [] = R := ⟨_, rfl⟩
  rw [hR]
  refine Fn.intro Tryz.call123 Tryz.func123 rfl Tryz.ntmps123 rfl ?_; intro g w Q hQ H
  refine sq ?_; intro K1 hK1; refine wp_region_lit ?_; refine xas rfl ?_; refine wpList_nil ?_; refine tn ?_; refine hK1 _ _ ?_; clear hK1 K1
  refine sq ?_; intro K2 hK2; refine wp_region_lit ?_; refine xas rfl ?_; refine wpList_nil ?_; refine tn ?_; refine hK2 _ _ ?_; clear hK2 K2
  refine sq ?_; intro K3 hK3; refine sq ?_; intro K4 hK4; refine wp_region_lit ?_; refine xmv rfl ?_; refine xmv rfl ?_; refine wpList_nil ?_
  refine tn ?_; refine hK4 _ _ ?_; clear hK4 K4; refine wp_block ?_
  replace H := H.ownNil leaseT 2
  refine lp5 (α := Nat) (β := CurS) (γ := List Lease) (δ := Option Addr) (ε := Nat) (fun i t acc ao cap => [(0, .pointer (some ⟨p, 0, none⟩)), (2, .func (.func 124) #[] #[]), (7, .slice ao acc.length cap), (9, .int .u64 n), (10, .int .u64 i)]) (fun i t acc ao cap => [own ao cap leaseT 2 acc.length (leasesV acc), curs p bs t.1 t.2]) (fun i t acc ao cap => clist (rdLease bs) (n - i) t acc = R ∧ t.1 ≤ bs.length ∧ acc.length ≤ t.1 ∧ i ≤ n) (fun i t acc ao cap => n - i) (0) (s) ([]) (none) (0) ⟨rfl, rfl, rfl, rfl, rfl, True.intro⟩ (⟨hR, hs, Nat.zero_le _, Nat.zero_le _⟩) H ?_; intro i t acc ao cap ρ w hI H K5 hK5
  obtain ⟨hc, ht, hacc, hi⟩ := hI
  refine sq ?_; intro K6 hK6; refine wp_region_lit ?_; refine xlt rfl rfl ?_; refine wpList_nil ?_; refine tn ?_; refine hK6 _ _ ?_; clear hK6 K6
  refine sq ?_; intro K7 hK7
  refine if_ rfl (fun k1 => ?_) (fun k1 => ?_)
  · have k1 : i < n := by simpa using k1
    have hsub : n - i = (n - (i + 1)) + 1 := by omega
    rw [hsub, clist_succ] at hc
    have htl := rdLease_le ht
    refine wp_skip ?_; refine tn ?_; refine hK7 _ _ ?_; clear hK7 K7; refine sq ?_; intro K8 hK8; refine wp_block ?_; refine sq ?_; intro K9 hK9
    refine wp_region_lit ?_; refine xmv rfl ?_; refine xmv rfl ?_
    refine xc [1] H ((c_rdlease p bs t hlen ht)) rfl rfl rfl rfl rfl ?_; rintro _ _ w ⟨rfl, rfl⟩ H; replace H := H.ap rfl
    refine xal H ?_; intro b8 w H
    (refine xsta 0 H rfl rfl rfl rfl rfl rfl ?_; intro w H)
    refine wpList_nil ?_; refine tn ?_; refine hK9 _ _ ?_; clear hK9 K9; refine sq ?_; intro K10 hK10; refine sq ?_; intro K11 hK11; refine wp_region_lit ?_
    refine xmv rfl ?_
    refine xc [1] H ((c_err p bs (rdLease bs t).2.1 (rdLease bs t).2.2)) rfl rfl rfl rfl rfl ?_; rintro _ _ w ⟨rfl, rfl⟩ H; replace H := H.ap rfl
    refine xne rfl rfl ?_; refine wpList_nil ?_; refine tn ?_; refine hK11 _ _ ?_; clear hK11 K11
    refine if_ rfl (fun k2 => ?_) (fun k2 => ?_)
    · have k2 : (rdLease bs t).2.2 ≠ 0 := by simpa using k2
      rw [if_pos k2] at hc
      refine sq ?_; intro K12 hK12; refine wp_region_lit ?_; refine xas rfl ?_; refine wpList_nil ?_; refine tn ?_; refine hK12 _ _ ?_; clear hK12 K12
      refine wp_ret ?_; refine tr ?_; clear hK10 K10; refine br ?_; refine tr ?_; clear hK8 K8; refine tr ?_; clear hK5 K5; refine br ?_; refine tr ?_; clear hK3 K3
      replace H := (H.keeps [0] rfl).ownNil leaseT 2
      replace H := H.keeps [0, 0] rfl; refine hQ _ _ _ ?_; refine r1 rfl rfl H ?_
      rw [← hc]; exact ⟨none, 0, rfl, rfl⟩
    · have k2 : (rdLease bs t).2.2 = 0 := by simpa using k2
      have hok := rdLease_ok k2
      rw [if_neg (fun h => h k2)] at hc
      refine wp_skip ?_; refine tn ?_; refine hK10 _ _ ?_; clear hK10 K10; refine wp_region_lit ?_; refine xmv rfl ?_
      refine xldab 1 H rfl rfl rfl rfl ?_
      refine xbs H rfl rfl rfl (by simp [Value.cells] <;> rfl) rfl rfl ?_; intro b20 w H
      refine xap 3 H rfl rfl rfl (src_at (news := leaseV (rdLease bs t).1) 0 H rfl (St.ownRd H) rfl) (leaseV_one _) (by omega) (by simp only [maxLen]; omega) ?_; intro ao21 cap21 w H hn21
      refine xas rfl ?_; refine wpList_nil ?_; refine bn ?_; refine tn ?_; refine hK8 _ _ ?_; clear hK8 K8; refine wp_region_lit ?_
      refine xadn_u64 (b := 1) rfl rfl (by omega) ?_
      refine xmv rfl ?_; refine wpList_nil ?_
      have e1 : leasesV acc ++ leaseV (rdLease bs t).1 = leasesV (acc ++ [(rdLease bs t).1]) := by simp [leasesV]
      have e2 : acc.length + 1 = (acc ++ [(rdLease bs t).1]).length := by simp
      rw [e1, e2] at H
      rw [e2]
      replace H := H.keeps [0, 1] rfl
      refine tn ?_; refine hK5 _ _ (i + 1) ((rdLease bs t).2) (acc ++ [(rdLease bs t).1]) (ao21) (cap21) ⟨rfl, rfl, rfl, rfl, rfl, True.intro⟩ ?_ H ?_
      · exact ⟨hc, htl, by simp; omega, k1⟩
      · omega
  · have k1 : i = n := by have := of_decide_eq_false k1; omega
    subst k1
    rw [Nat.sub_self] at hc
    unfold clist at hc
    refine wp_exit ?_; refine te ?_; clear hK7 K7; refine te ?_; clear hK5 K5; refine be ?_; refine tn ?_; refine hK3 _ _ ?_; clear hK3 K3
    refine sq ?_; intro K8 hK8; refine wp_region_lit ?_; refine xmv rfl ?_; refine xas rfl ?_; refine wpList_nil ?_; refine tn ?_; refine hK8 _ _ ?_; clear hK8 K8
    refine wp_ret ?_
    refine hQ _ _ _ ?_; refine r1 rfl rfl H ?_
    rw [← hc]; exact ⟨_, _, rfl, rfl⟩
end Go.Proofs.YtegllbmkkfnajaaGreatDoor
end
section
namespace Go.Proofs.YtegllbmkkfnajaaGreatDoor
open Go Go.Proofs
attribute [local irreducible] Go.wpList Go.Code.wp St Fn mk
set_option maxRecDepth 20000
def rdStmt (bs : List UInt8) (s : CurS) : Stmt × CurS := let a := rdN bs 8 s; let b := rdN bs 8 a.2; let c := rdN bs 8 b.2; (⟨[], 0, a.1, b.1, c.1, dueOf a.1 c.1⟩, c.2)
theorem rdN_lt {bs : List UInt8} {s : CurS} : (rdN bs 8 s).1 < 18446744073709551616 := by
  unfold rdN
  simp only
  have h := le_lt (ctake bs s.1 s.2 8).1
  have hl : (ctake bs s.1 s.2 8).1.length ≤ 8 := by unfold ctake; split; · simp
                                                    split; · simp
                                                    · simp; omega
  exact Nat.lt_of_lt_of_le h (Nat.le_trans (Nat.pow_le_pow_right (by decide) hl) (by decide))
theorem rdStmt_le {bs : List UInt8} {s : CurS} (h : s.1 ≤ bs.length) : (rdStmt bs s).2.1 ≤ bs.length := by unfold rdStmt; exact rdN_le (rdN_le (rdN_le h))
theorem rdStmt_ok {bs : List UInt8} {s : CurS} (h : (rdStmt bs s).2.2 = 0) : s.1 + 1 ≤ (rdStmt bs s).2.1 := by
  unfold rdStmt at *; have h1 := rdN_ok h; have h2 := rdN_ok h1.1; have h3 := rdN_ok h2.1; simp only at *; omega
theorem c_rdstmt (A : Asn) (hT : Tab A) (p : Nat) (bs : List UInt8) (s : CurS) (hlen : bs.length ≤ 1099511627776) (hs : s.1 ≤ bs.length) :
    Fn Tryz.prog 126 [.pointer (some ⟨p, 0, none⟩)] [curs p bs s.1 s.2, A] (Ret fun v L => v = .agg (stmtV (rdStmt bs s).1).toArray ∧ L = [curs p bs (rdStmt bs s).2.1 (rdStmt bs s).2.2, A]) := by
  refine Fn.intro Tryz.call126 Tryz.func126 rfl Tryz.ntmps126 rfl ?_; intro g w Q hQ H
  refine sq ?_; intro K1 hK1; refine wp_region_lit ?_; refine xal H ?_; intro b2 w H; refine wpList_nil ?_; refine tn ?_; refine hK1 _ _ ?_; clear hK1 K1
  refine sq ?_; intro K2 hK2; refine wp_region_lit ?_; refine xal H ?_; intro b3 w H; refine wpList_nil ?_; refine tn ?_; refine hK2 _ _ ?_; clear hK2 K2
  refine sq ?_; intro K3 hK3; refine wp_region_lit ?_; refine xmv rfl ?_
  refine xc [2] H ((c_number p bs s.1 s.2 8 hlen hs (by simp))) rfl rfl rfl rfl rfl ?_; rintro _ _ w ⟨rfl, rfl⟩ H; replace H := H.ap rfl
  refine xfa rfl ?_
  (refine xst 1 H rfl rfl rfl rfl rfl ?_; intro w H)
  refine wpList_nil ?_; refine tn ?_; refine hK3 _ _ ?_; clear hK3 K3; refine sq ?_; intro K4 hK4; refine wp_region_lit ?_; refine xmv rfl ?_
  refine xc [1] H ((c_number p bs (rdN bs 8 s).2.1 (rdN bs 8 s).2.2 8 hlen (rdN_le hs) (by simp))) rfl rfl rfl rfl rfl ?_; rintro _ _ w ⟨rfl, rfl⟩ H; replace H := H.ap rfl
  refine xfa rfl ?_
  (refine xst 1 H rfl rfl rfl rfl rfl ?_; intro w H)
  refine wpList_nil ?_; refine tn ?_; refine hK4 _ _ ?_; clear hK4 K4; refine sq ?_; intro K5 hK5; refine wp_region_lit ?_; refine xmv rfl ?_
  refine xc [1] H ((c_number p bs (rdN bs 8 (rdN bs 8 s).2).2.1 (rdN bs 8 (rdN bs 8 s).2).2.2 8 hlen (rdN_le (rdN_le hs)) (by simp))) rfl rfl rfl rfl rfl ?_; rintro _ _ w ⟨rfl, rfl⟩ H; replace H := H.ap rfl
  have h1 : le (ctake bs s.1 s.2 8).1 < 18446744073709551616 := rdN_lt
  have h2 : le (ctake bs (rdN bs 8 (rdN bs 8 s).2).2.1 (rdN bs 8 (rdN bs 8 s).2).2.2 8).1 < 18446744073709551616 := rdN_lt
  refine xfa rfl ?_
  (refine xst 1 H rfl rfl rfl rfl rfl ?_; intro w H)
  refine wpList_nil ?_; refine tn ?_; refine hK5 _ _ ?_; clear hK5 K5; refine sq ?_; intro K6 hK6; refine wp_region_lit ?_; refine xfa rfl ?_
  refine xldb 0 H rfl rfl rfl ?_
  refine xfa rfl ?_
  refine xldb 0 H rfl rfl rfl ?_
  by_cases hf : fPrice (le (ctake bs (rdN bs 8 (rdN bs 8 s).2).2.1 (rdN bs 8 (rdN bs 8 s).2).2.2 8).1) = true
  · refine xc [3] H ((c_due_t hT h1 h2 hf)) rfl rfl rfl rfl rfl ?_; rintro _ _ w ⟨rfl, rfl⟩ H; replace H := H.ap rfl
    refine xmv rfl ?_; refine xex rfl rfl ?_; refine xex rfl rfl ?_; refine xfa rfl ?_
    (refine xst 1 H rfl rfl rfl rfl rfl ?_; intro w H)
    refine wpList_nil ?_; refine tn ?_; refine hK6 _ _ ?_; clear hK6 K6; refine sq ?_; intro K7 hK7; refine wp_region_lit ?_
    refine xldab 0 H rfl rfl rfl rfl ?_
    (refine xsta 3 H rfl rfl rfl rfl rfl rfl ?_; intro w H)
    refine wpList_nil ?_; refine tn ?_; refine hK7 _ _ ?_; clear hK7 K7; refine wp_ret ?_
    refine hQ _ _ _ ?_
    refine rca 0 [3, 2] rfl rfl H rfl (blk_cells (k := 6) rfl rfl) rfl rfl ?_
    refine ⟨?_, rfl⟩
    show _ = Value.agg #[_, _, _, _, _, .int .u64 (dueOf (rdN bs 8 s).1 (rdN bs 8 (rdN bs 8 (rdN bs 8 s).2).2).1 : Nat)]
    rw [show dueOf (rdN bs 8 s).1 (rdN bs 8 (rdN bs 8 (rdN bs 8 s).2).2).1 = pdue (rdN bs 8 s).1 (rdN bs 8 (rdN bs 8 (rdN bs 8 s).2).2).1 from if_pos hf]; rfl
  · refine xc [3] H ((c_due_f hT h1 h2 hf)) rfl rfl rfl rfl rfl ?_; rintro _ _ w ⟨rfl, rfl⟩ H; replace H := H.ap rfl
    refine xmv rfl ?_; refine xex rfl rfl ?_; refine xex rfl rfl ?_; refine xfa rfl ?_
    (refine xst 1 H rfl rfl rfl rfl rfl ?_; intro w H)
    refine wpList_nil ?_; refine tn ?_; refine hK6 _ _ ?_; clear hK6 K6; refine sq ?_; intro K7 hK7; refine wp_region_lit ?_
    refine xldab 0 H rfl rfl rfl rfl ?_
    (refine xsta 3 H rfl rfl rfl rfl rfl rfl ?_; intro w H)
    refine wpList_nil ?_; refine tn ?_; refine hK7 _ _ ?_; clear hK7 K7; refine wp_ret ?_
    refine hQ _ _ _ ?_
    refine rca 0 [3, 2] rfl rfl H rfl (blk_cells (k := 6) rfl rfl) rfl rfl ?_
    refine ⟨?_, rfl⟩
    show _ = Value.agg #[_, _, _, _, _, .int .u64 (dueOf (rdN bs 8 s).1 (rdN bs 8 (rdN bs 8 (rdN bs 8 s).2).2).1 : Nat)]
    rw [show dueOf (rdN bs 8 s).1 (rdN bs 8 (rdN bs 8 (rdN bs 8 s).2).2).1 = 0 from if_neg hf]; rfl
theorem c_listS (A : Asn) (hT : Tab A) (p : Nat) (bs : List UInt8) (s : CurS) (n : Nat) (hn : n < 18446744073709551616) (hlen : bs.length ≤ 1099511627776) (hs : s.1 ≤ bs.length) :
    Fn Tryz.prog 125 [.pointer (some ⟨p, 0, none⟩), .int .u64 n, .func (.func 126) #[] #[]] [curs p bs s.1 s.2, A]
      (Ret fun v L => ∃ ao cap, v = .slice ao (clist (rdStmt bs) n s []).1.length cap ∧ L = [own ao cap stmtT 6 (clist (rdStmt bs) n s []).1.length (closedV (clist (rdStmt bs) n s []).1), curs p bs (clist (rdStmt bs) n s []).2.1 (clist (rdStmt bs) n s []).2.2, A]) := by
  obtain ⟨R, hR⟩ : ∃ R, clist (rdStmt bs) n s [] = R := ⟨_, rfl⟩
  rw [hR]
  refine Fn.intro Tryz.call125 Tryz.func125 rfl Tryz.ntmps125 rfl ?_; intro g w Q hQ H
  refine sq ?_; intro K1 hK1; refine wp_region_lit ?_; refine xas rfl ?_; refine wpList_nil ?_; refine tn ?_; refine hK1 _ _ ?_; clear hK1 K1
  refine sq ?_; intro K2 hK2; refine wp_region_lit ?_; refine xas rfl ?_; refine wpList_nil ?_; refine tn ?_; refine hK2 _ _ ?_; clear hK2 K2
  refine sq ?_; intro K3 hK3; refine sq ?_; intro K4 hK4; refine wp_region_lit ?_; refine xmv rfl ?_; refine xmv rfl ?_; refine wpList_nil ?_
  refine tn ?_; refine hK4 _ _ ?_; clear hK4 K4; refine wp_block ?_
  replace H := H.ownNil stmtT 6
  refine lp5 (α := Nat) (β := CurS) (γ := List Stmt) (δ := Option Addr) (ε := Nat) (fun i t acc ao cap => [(0, .pointer (some ⟨p, 0, none⟩)), (2, .func (.func 126) #[] #[]), (7, .slice ao acc.length cap), (9, .int .u64 n), (10, .int .u64 i)]) (fun i t acc ao cap => [own ao cap stmtT 6 acc.length (closedV acc), curs p bs t.1 t.2, A]) (fun i t acc ao cap => clist (rdStmt bs) (n - i) t acc = R ∧ t.1 ≤ bs.length ∧ acc.length ≤ t.1 ∧ i ≤ n) (fun i t acc ao cap => n - i) (0) (s) ([]) (none) (0) ⟨rfl, rfl, rfl, rfl, rfl, True.intro⟩ (⟨hR, hs, Nat.zero_le _, Nat.zero_le _⟩) H ?_; intro i t acc ao cap ρ w hI H K5 hK5
  obtain ⟨hc, ht, hacc, hi⟩ := hI
  refine sq ?_; intro K6 hK6; refine wp_region_lit ?_; refine xlt rfl rfl ?_; refine wpList_nil ?_; refine tn ?_; refine hK6 _ _ ?_; clear hK6 K6
  refine sq ?_; intro K7 hK7
  refine if_ rfl (fun k1 => ?_) (fun k1 => ?_)
  · have k1 : i < n := by simpa using k1
    have hsub : n - i = (n - (i + 1)) + 1 := by omega
    rw [hsub, clist_succ] at hc
    have htl := rdStmt_le ht
    refine wp_skip ?_; refine tn ?_; refine hK7 _ _ ?_; clear hK7 K7; refine sq ?_; intro K8 hK8; refine wp_block ?_; refine sq ?_; intro K9 hK9
    refine wp_region_lit ?_; refine xmv rfl ?_; refine xmv rfl ?_
    refine xc [1, 1] H ((c_rdstmt A hT p bs t hlen ht)) rfl rfl rfl rfl rfl ?_; rintro _ _ w ⟨rfl, rfl⟩ H; replace H := H.ap rfl
    refine xal H ?_; intro b8 w H
    (refine xsta 0 H rfl rfl rfl rfl rfl rfl ?_; intro w H)
    refine wpList_nil ?_; refine tn ?_; refine hK9 _ _ ?_; clear hK9 K9; refine sq ?_; intro K10 hK10; refine sq ?_; intro K11 hK11; refine wp_region_lit ?_
    refine xmv rfl ?_
    refine xc [1] H ((c_err p bs (rdStmt bs t).2.1 (rdStmt bs t).2.2)) rfl rfl rfl rfl rfl ?_; rintro _ _ w ⟨rfl, rfl⟩ H; replace H := H.ap rfl
    refine xne rfl rfl ?_; refine wpList_nil ?_; refine tn ?_; refine hK11 _ _ ?_; clear hK11 K11
    refine if_ rfl (fun k2 => ?_) (fun k2 => ?_)
    · have k2 : (rdStmt bs t).2.2 ≠ 0 := by simpa using k2
      rw [if_pos k2] at hc
      refine sq ?_; intro K12 hK12; refine wp_region_lit ?_; refine xas rfl ?_; refine wpList_nil ?_; refine tn ?_; refine hK12 _ _ ?_; clear hK12 K12
      refine wp_ret ?_; refine tr ?_; clear hK10 K10; refine br ?_; refine tr ?_; clear hK8 K8; refine tr ?_; clear hK5 K5; refine br ?_; refine tr ?_; clear hK3 K3
      replace H := (H.keeps [0, 1] rfl).ownNil stmtT 6
      replace H := H.keeps [0, 0, 0] rfl; refine hQ _ _ _ ?_; refine r1 rfl rfl H ?_
      rw [← hc]; exact ⟨none, 0, rfl, rfl⟩
    · have k2 : (rdStmt bs t).2.2 = 0 := by simpa using k2
      have hok := rdStmt_ok k2
      rw [if_neg (fun h => h k2)] at hc
      refine wp_skip ?_; refine tn ?_; refine hK10 _ _ ?_; clear hK10 K10; refine wp_region_lit ?_; refine xmv rfl ?_
      refine xldab 1 H rfl rfl rfl rfl ?_
      refine xbs H rfl rfl rfl (by simp [Value.cells] <;> rfl) rfl rfl ?_; intro b20 w H
      refine xap 4 H rfl rfl rfl (src_at (news := stmtV (rdStmt bs t).1) 0 H rfl (St.ownRd H) rfl) (stmtV_one _) (by omega) (by simp only [maxLen]; omega) ?_; intro ao21 cap21 w H hn21
      refine xas rfl ?_; refine wpList_nil ?_; refine bn ?_; refine tn ?_; refine hK8 _ _ ?_; clear hK8 K8; refine wp_region_lit ?_
      refine xadn_u64 (b := 1) rfl rfl (by omega) ?_
      refine xmv rfl ?_; refine wpList_nil ?_
      have e1 : closedV acc ++ stmtV (rdStmt bs t).1 = closedV (acc ++ [(rdStmt bs t).1]) := by simp [closedV]
      have e2 : acc.length + 1 = (acc ++ [(rdStmt bs t).1]).length := by simp
      rw [e1, e2] at H
      rw [e2]
      replace H := H.keeps [0, 1, 2] rfl
      refine tn ?_; refine hK5 _ _ (i + 1) ((rdStmt bs t).2) (acc ++ [(rdStmt bs t).1]) (ao21) (cap21) ⟨rfl, rfl, rfl, rfl, rfl, True.intro⟩ ?_ H ?_
      · exact ⟨hc, htl, by simp; omega, k1⟩
      · omega
  · have k1 : i = n := by have := of_decide_eq_false k1; omega
    subst k1
    rw [Nat.sub_self] at hc
    unfold clist at hc
    refine wp_exit ?_; refine te ?_; clear hK7 K7; refine te ?_; clear hK5 K5; refine be ?_; refine tn ?_; refine hK3 _ _ ?_; clear hK3 K3
    refine sq ?_; intro K8 hK8; refine wp_region_lit ?_; refine xmv rfl ?_; refine xas rfl ?_; refine wpList_nil ?_; refine tn ?_; refine hK8 _ _ ?_; clear hK8 K8
    refine wp_ret ?_
    refine hQ _ _ _ ?_; refine r1 rfl rfl H ?_
    rw [← hc]; exact ⟨_, _, rfl, rfl⟩
end Go.Proofs.YtegllbmkkfnajaaGreatDoor
end
section
namespace Go.Proofs.YtegllbmkkfnajaaGreatDoor
open Go Go.Proofs
attribute [local irreducible] Go.wpList Go.Code.wp St Fn mk
set_option maxRecDepth 20000
theorem clist_le {α : Type} {part : CurS → α × CurS} {m : Nat} (hp : ∀ s, s.1 ≤ m → (part s).2.1 ≤ m) : ∀ (n : Nat) (s : CurS) (acc : List α), s.1 ≤ m → (clist part n s acc).2.1 ≤ m
  | 0, s, acc, h => h
  | n + 1, s, acc, h => by
    rw [clist_succ]; split
    · exact hp s h
    · exact clist_le hp n _ _ (hp s h)
theorem clist_len {α : Type} {part : CurS → α × CurS} (hp : ∀ s, (part s).2.2 = 0 → s.1 + 1 ≤ (part s).2.1) : ∀ (n : Nat) (s : CurS) (acc : List α), acc.length ≤ s.1 → (clist part n s acc).1.length ≤ (clist part n s acc).2.1
  | 0, s, acc, h => h
  | n + 1, s, acc, h => by
    rw [clist_succ]; split
    · simp
    · rename_i h1
      have := hp s (by simpa using h1)
      exact clist_len hp n _ _ (by simp; omega)
def nameS (t : List UInt8) : Nat → List Stmt → List Stmt
  | _, [] => []
  | i, s :: l => { s with tenant := t, period := i } :: nameS t (i + 1) l
theorem nameS_len (t : List UInt8) : ∀ i l, (nameS t i l).length = l.length
  | _, [] => rfl
  | i, s :: l => by simp [nameS, nameS_len t (i + 1) l]
theorem nameS_step (t : List UInt8) : ∀ (l : List Stmt) (j i : Nat) (s : Stmt), l[i]? = some s → (nameS t j (l.take i) ++ l.drop i).set i { s with tenant := t, period := j + i } = nameS t j (l.take (i + 1)) ++ l.drop (i + 1)
  | [], _, _, _, h => by simp at h
  | x :: l, j, 0, s, h => by simp at h; subst h; simp [nameS]
  | x :: l, j, i + 1, s, h => by
    have := nameS_step t l (j + 1) i s (by simpa using h)
    simp only [List.take_succ_cons, List.drop_succ_cons, nameS, List.cons_append, List.set_cons_succ]
    rw [← this]; congr 3; omega
theorem closedV_set (t : List UInt8) (m : Nat) : ∀ (l : List Stmt) (i : Nat) (x : Stmt), l[i]? = some x → ((closedV l).set (i * 6) (.string (str t))).set (i * 6 + 1) (.int .u64 m) = closedV (l.set i { x with tenant := t, period := m })
  | [], i, x, h => by simp at h
  | y :: l, 0, x, h => by simp at h; subst h; rfl
  | y :: l, i + 1, x, h => by
    have := closedV_set t m l i x (by simpa using h)
    have e : (i + 1) * 6 = i * 6 + 6 := by omega
    rw [e]
    show (((stmtV y ++ closedV l).set (i * 6 + 6) _).set (i * 6 + 6 + 1) _) = stmtV y ++ closedV (l.set i _)
    rw [← this, List.set_append_right _ _ (by rw [stmtV_len]; omega), List.set_append_right _ _ (by rw [stmtV_len]; omega), stmtV_len]
    congr 2
def rdAcct (bs : List UInt8) (s : CurS) : Acct × CurS :=
  let t := ctext bs s.1 s.2 1 255
  let c := rdN bs 8 t.2
  let u := rdN bs 8 c.2
  let b := rdN bs 8 u.2
  let nl := rdN bs 2 b.2
  let ls := clist (rdLease bs) nl.1 nl.2 []
  let nc := rdN bs 4 ls.2
  let cs := clist (rdStmt bs) nc.1 nc.2 []
  (⟨t.1, c.1, u.1, b.1, cs.1.length, ls.1, nameS t.1 0 cs.1⟩, cs.2)
theorem rdN_lt' {bs : List UInt8} {s : CurS} {k : Nat} (hk : k ≤ 8) : (rdN bs k s).1 < 18446744073709551616 := by
  unfold rdN
  simp only
  have h := le_lt (ctake bs s.1 s.2 k).1
  have hl : (ctake bs s.1 s.2 k).1.length ≤ 8 := by unfold ctake; split; · simp
                                                    split; · simp
                                                    · simp; omega
  exact Nat.lt_of_lt_of_le h (Nat.le_trans (Nat.pow_le_pow_right (by decide) hl) (by decide))
theorem c_rdN (p : Nat) (bs : List UInt8) (s : CurS) (k : Nat) (hlen : bs.length ≤ 1099511627776) (hs : s.1 ≤ bs.length) (hk : k = 1 ∨ k = 2 ∨ k = 4 ∨ k = 8) :
    Fn Tryz.prog 85 [.pointer (some ⟨p, 0, none⟩), .int .i64 k] [curs p bs s.1 s.2] (Ret fun v L => v = .int .u64 ((rdN bs k s).1 : Nat) ∧ L = [curs p bs (rdN bs k s).2.1 (rdN bs k s).2.2]) :=
  c_number p bs s.1 s.2 k hlen hs hk
theorem c_rdacct (A : Asn) (hT : Tab A) (p : Nat) (bs : List UInt8) (s : CurS) (hlen : bs.length ≤ 1099511627776) (hs : s.1 ≤ bs.length) :
    Fn Tryz.prog 87 [.pointer (some ⟨p, 0, none⟩)] [curs p bs s.1 s.2, A] (Ret fun v L => ∃ lo lc co cc, v = .agg (acctV (rdAcct bs s).1 lo lc co cc).toArray ∧
      L = [own lo lc leaseT 2 (rdAcct bs s).1.leases.length (leasesV (rdAcct bs s).1.leases), own co cc stmtT 6 (rdAcct bs s).1.closed.length (closedV (rdAcct bs s).1.closed), curs p bs (rdAcct bs s).2.1 (rdAcct bs s).2.2, A]) := by
  unfold rdAcct
  simp only
  have hs1 := ctext_le (err := s.2) (k := 1) (most := 255) hs
  obtain ⟨t, ht⟩ : ∃ t, ctext bs s.1 s.2 1 255 = t := ⟨_, rfl⟩
  rw [ht] at hs1
  have hs2 := rdN_le (k := 8) hs1
  obtain ⟨c, hc⟩ : ∃ c, rdN bs 8 t.2 = c := ⟨_, rfl⟩
  rw [hc] at hs2
  have hs3 := rdN_le (k := 8) hs2
  obtain ⟨u, hu⟩ : ∃ u, rdN bs 8 c.2 = u := ⟨_, rfl⟩
  rw [hu] at hs3
  have hs4 := rdN_le (k := 8) hs3
  obtain ⟨b, hb⟩ : ∃ b, rdN bs 8 u.2 = b := ⟨_, rfl⟩
  rw [hb] at hs4
  have hs5 := rdN_le (k := 2) hs4
  have hnl : (rdN bs 2 b.2).1 < 18446744073709551616 := rdN_lt' (by decide)
  obtain ⟨nl, hnle⟩ : ∃ nl, rdN bs 2 b.2 = nl := ⟨_, rfl⟩
  rw [hnle] at hs5 hnl
  have hs6 := clist_le (part := rdLease bs) (fun s h => rdLease_le h) nl.1 nl.2 [] hs5
  obtain ⟨ls, hls⟩ : ∃ ls, clist (rdLease bs) nl.1 nl.2 [] = ls := ⟨_, rfl⟩
  rw [hls] at hs6
  have hs7 := rdN_le (k := 4) hs6
  have hncl : (rdN bs 4 ls.2).1 < 18446744073709551616 := rdN_lt' (by decide)
  obtain ⟨nc, hnce⟩ : ∃ nc, rdN bs 4 ls.2 = nc := ⟨_, rfl⟩
  rw [hnce] at hs7 hncl
  have hs8 := clist_le (part := rdStmt bs) (fun s h => rdStmt_le h) nc.1 nc.2 [] hs7
  have hcl := clist_len (part := rdStmt bs) (fun s h => rdStmt_ok h) nc.1 nc.2 [] (Nat.zero_le _)
  have hcS := c_listS A hT p bs nc.2 nc.1 hncl hlen hs7
  obtain ⟨cs, hcs⟩ : ∃ cs, clist (rdStmt bs) nc.1 nc.2 [] = cs := ⟨_, rfl⟩
  rw [hcs] at hs8 hcl hcS
  rw [ht, hc, hu, hb, hnle, hls, hnce, hcs]
  have c1 := c_text p bs s.1 s.2 1 255 hlen hs (by simp) (by simp)
  rw [ht] at c1
  have c2 := c_rdN p bs t.2 8 hlen hs1 (by simp)
  rw [hc] at c2
  have c3 := c_rdN p bs c.2 8 hlen hs2 (by simp)
  rw [hu] at c3
  have c4 := c_rdN p bs u.2 8 hlen hs3 (by simp)
  rw [hb] at c4
  have c5 := c_rdN p bs b.2 2 hlen hs4 (by simp)
  rw [hnle] at c5
  have c6 := c_rdN p bs ls.2 4 hlen hs6 (by simp)
  rw [hnce] at c6
  have cL := c_listL p bs nl.2 nl.1 hnl hlen hs5
  rw [hls] at cL
  refine Fn.intro Tryz.call87 Tryz.func87 rfl Tryz.ntmps87 rfl ?_; intro g w Q hQ H
  refine sq ?_; intro K1 hK1; refine wp_region_lit ?_; refine xal H ?_; intro b2 w H; refine wpList_nil ?_; refine tn ?_; refine hK1 _ _ ?_; clear hK1 K1
  refine sq ?_; intro K2 hK2; refine wp_region_lit ?_; refine xal H ?_; intro b3 w H; refine wpList_nil ?_; refine tn ?_; refine hK2 _ _ ?_; clear hK2 K2
  refine sq ?_; intro K3 hK3; refine wp_region_lit ?_; refine xmv rfl ?_
  refine xc [2] H (c1) rfl rfl rfl rfl rfl ?_; rintro _ _ w ⟨rfl, rfl⟩ H; replace H := H.ap rfl
  refine xfa rfl ?_
  (refine xst 1 H rfl rfl rfl rfl rfl ?_; intro w H)
  refine wpList_nil ?_; refine tn ?_; refine hK3 _ _ ?_; clear hK3 K3; refine sq ?_; intro K4 hK4; refine wp_region_lit ?_; refine xmv rfl ?_
  refine xc [1] H (c2) rfl rfl rfl rfl rfl ?_; rintro _ _ w ⟨rfl, rfl⟩ H; replace H := H.ap rfl
  refine xfa rfl ?_
  (refine xst 1 H rfl rfl rfl rfl rfl ?_; intro w H)
  refine wpList_nil ?_; refine tn ?_; refine hK4 _ _ ?_; clear hK4 K4; refine sq ?_; intro K5 hK5; refine wp_region_lit ?_; refine xmv rfl ?_
  refine xc [1] H (c3) rfl rfl rfl rfl rfl ?_; rintro _ _ w ⟨rfl, rfl⟩ H; replace H := H.ap rfl
  refine xfa rfl ?_
  (refine xst 1 H rfl rfl rfl rfl rfl ?_; intro w H)
  refine wpList_nil ?_; refine tn ?_; refine hK5 _ _ ?_; clear hK5 K5; refine sq ?_; intro K6 hK6; refine wp_region_lit ?_; refine xmv rfl ?_
  refine xc [1] H (c4) rfl rfl rfl rfl rfl ?_; rintro _ _ w ⟨rfl, rfl⟩ H; replace H := H.ap rfl
  refine xfa rfl ?_
  (refine xst 1 H rfl rfl rfl rfl rfl ?_; intro w H)
  refine wpList_nil ?_; refine tn ?_; refine hK6 _ _ ?_; clear hK6 K6; refine sq ?_; intro K7 hK7; refine wp_region_lit ?_; refine xmv rfl ?_; refine xmv rfl ?_
  refine xc [1] H (c5) rfl rfl rfl rfl rfl ?_; rintro _ _ w ⟨rfl, rfl⟩ H; replace H := H.ap rfl
  refine xc [0] H (cL) rfl rfl rfl rfl rfl ?_; rintro _ _ w ⟨lo, lc, rfl, rfl⟩ H; replace H := H.ap rfl
  refine xfa rfl ?_
  (refine xst 2 H rfl rfl rfl rfl rfl ?_; intro w H)
  refine wpList_nil ?_; refine tn ?_; refine hK7 _ _ ?_; clear hK7 K7; refine sq ?_; intro K8 hK8; refine wp_region_lit ?_; refine xmv rfl ?_; refine xmv rfl ?_
  refine xc [2] H (c6) rfl rfl rfl rfl rfl ?_; rintro _ _ w ⟨rfl, rfl⟩ H; replace H := H.ap rfl
  refine xc [0, 3] H (hcS) rfl rfl rfl rfl rfl ?_; rintro _ _ w ⟨co, cc, rfl, rfl⟩ H; replace H := H.ap rfl
  have hcn : cs.1.length ≤ 1099511627776 := by omega
  refine xfa rfl ?_
  (refine xst 3 H rfl rfl rfl rfl rfl ?_; intro w H)
  refine wpList_nil ?_; refine tn ?_; refine hK8 _ _ ?_; clear hK8 K8; refine sq ?_; intro K9 hK9; refine wp_region_lit ?_; refine xfa rfl ?_
  refine xldb 0 H rfl rfl rfl ?_
  refine xli rfl ?_
  refine xcvi rfl (wu64 (by omega)) ?_
  refine xfa rfl ?_
  (refine xst 0 H rfl rfl rfl rfl rfl ?_; intro w H)
  refine wpList_nil ?_; refine tn ?_; refine hK9 _ _ ?_; clear hK9 K9; refine sq ?_; intro K10 hK10; refine sq ?_; intro K11 hK11; refine wp_region_lit ?_
  refine xfa rfl ?_
  refine xldb 0 H rfl rfl rfl ?_
  refine xli rfl ?_; refine xmv rfl ?_; refine wpList_nil ?_; refine tn ?_; refine hK11 _ _ ?_; clear hK11 K11; refine wp_block ?_
  replace H := H.keeps [1, 0, 3, 2, 0, 0] rfl
  refine lp (α := Nat) (fun i => [(2, .pointer (some ⟨b2, 0, none⟩)), (3, .pointer (some ⟨b3, 0, none⟩)), (33, .slice co cs.1.length cc), (34, .int .i64 cs.1.length), (35, .int .i64 i)]) (fun i => [own co cc stmtT 6 cs.1.length (closedV (nameS t.1 0 (cs.1.take i) ++ cs.1.drop i)), blk b3 [.string (str t.1), .int .u64 c.1, .int .u64 u.1, .int .u64 b.1, .int .u64 cs.1.length, .slice lo ls.1.length lc, .slice co cs.1.length cc] acctT, blk b2 acctZ acctT, own lo lc leaseT 2 ls.1.length (leasesV ls.1), curs p bs cs.2.1 cs.2.2, A]) (fun i => i ≤ cs.1.length) (fun i => cs.1.length - i) (0) ⟨rfl, rfl, rfl, rfl, rfl, True.intro⟩ (Nat.zero_le _) H ?_; intro i ρ w hI H K12 hK12
  refine sq ?_; intro K13 hK13; refine wp_region_lit ?_; refine xlt rfl rfl ?_; refine wpList_nil ?_; refine tn ?_; refine hK13 _ _ ?_; clear hK13 K13
  refine sq ?_; intro K14 hK14
  refine if_ rfl (fun k1 => ?_) (fun k1 => ?_)
  · have k1 : i < cs.1.length := by simpa using k1
    refine wp_skip ?_; refine tn ?_; refine hK14 _ _ ?_; clear hK14 K14; refine sq ?_; intro K15 hK15; refine wp_block ?_; refine sq ?_; intro K16 hK16
    refine wp_region_lit ?_; refine xmv rfl ?_; refine xas rfl ?_; refine wpList_nil ?_; refine tn ?_; refine hK16 _ _ ?_; clear hK16 K16
    refine sq ?_; intro K17 hK17; refine wp_region_lit ?_; refine xfa rfl ?_
    refine xldb 1 H rfl rfl rfl ?_
    refine xmv rfl ?_; refine xfa rfl ?_
    refine xldb 1 H rfl rfl rfl ?_
    refine xio 0 H rfl k1 k1 rfl rfl rfl ?_; intro b43 o43 ha43
    refine xfa rfl ?_
    have hX : (nameS t.1 0 (cs.1.take i) ++ cs.1.drop i)[i]? = some cs.1[i] := by
      rw [List.getElem?_append_right (by rw [nameS_len, List.length_take]; omega), nameS_len, List.length_take, show i - min i cs.1.length = 0 by omega, List.getElem?_drop, Nat.add_zero, List.getElem?_eq_getElem k1]
    have hXl : (closedV (nameS t.1 0 (cs.1.take i) ++ cs.1.drop i)).length = cs.1.length * 6 := by
      rw [flat_len stmtV_len, List.length_append, nameS_len, List.length_take, List.length_drop]; congr 1; omega
    have hst := nameS_step t.1 cs.1 0 i cs.1[i] (List.getElem?_eq_getElem k1)
    generalize nameS t.1 0 (cs.1.take i) ++ cs.1.drop i = X at hX hXl hst H
    refine xso 0 (i * 6) H ha43 rfl (by omega) rfl rfl rfl rfl ?_; intro w H
    refine wpList_nil ?_; refine tn ?_; refine hK17 _ _ ?_; clear hK17 K17; refine wp_region_lit ?_; refine xfa rfl ?_
    refine xldb 1 H rfl rfl rfl ?_
    refine xmv rfl ?_; refine xmv rfl ?_
    refine xcvi rfl (wu64 (by omega)) ?_
    refine xio 0 H rfl k1 k1 rfl rfl rfl ?_; intro b50 o50 ha50
    refine xfa rfl ?_
    refine xso 0 (i * 6 + 1) H ha50 rfl (by rw [List.length_set]; omega) rfl rfl rfl rfl ?_; intro w H
    rw [closedV_set t.1 i X i cs.1[i] hX, show ({ cs.1[i] with tenant := t.1, period := i } : Stmt) = { cs.1[i] with tenant := t.1, period := 0 + i } by rw [Nat.zero_add], hst] at H
    refine wpList_nil ?_; refine bn ?_; refine tn ?_; refine hK15 _ _ ?_; clear hK15 K15; refine wp_region_lit ?_
    refine xadi rfl rfl (wi64 (by omega)) ?_
    refine xmv rfl ?_; refine wpList_nil ?_
    refine tn ?_; refine hK12 _ _ (i + 1) ⟨rfl, rfl, rfl, rfl, rfl, True.intro⟩ ?_ H ?_
    · exact k1
    · omega
  · have k1 : i = cs.1.length := by have := of_decide_eq_false k1; omega
    subst k1
    rw [List.take_length, List.drop_length, List.append_nil] at H
    rw [show cs.1.length = (nameS t.1 0 cs.1).length by rw [nameS_len]] at H ⊢
    refine wp_exit ?_; refine te ?_; clear hK14 K14; refine te ?_; clear hK12 K12; refine be ?_; refine tn ?_; refine hK10 _ _ ?_; clear hK10 K10
    refine sq ?_; intro K15 hK15; refine wp_region_lit ?_
    refine xldab 1 H rfl rfl rfl rfl ?_
    (refine xsta 2 H rfl rfl rfl rfl rfl rfl ?_; intro w H)
    refine wpList_nil ?_; refine tn ?_; refine hK15 _ _ ?_; clear hK15 K15; refine wp_ret ?_
    refine hQ _ _ _ ?_
    refine rca 0 [3, 1, 2, 2] rfl rfl H rfl (blk_cells (k := 7) rfl rfl) rfl rfl ?_
    exact ⟨lo, lc, co, cc, by simp [acctV, nameS_len], rfl⟩
end Go.Proofs.YtegllbmkkfnajaaGreatDoor
end
section
namespace Go.Proofs.YtegllbmkkfnajaaGreatDoor
open Go Go.Proofs
attribute [local irreducible] Go.wpList Go.Code.wp St Fn mk
set_option maxRecDepth 20000
def Adv {α : Type} (part : CurS → α × CurS) : Prop := ∀ s, (part s).2.2 = 0 → s.2 = 0 ∧ s.1 ≤ (part s).2.1
theorem rdN_adv (bs : List UInt8) (k : Nat) : Adv (rdN bs k) := fun s h => ⟨(rdN_ok h).1, by have := (rdN_ok h).2; omega⟩
theorem clist_adv {α : Type} {part : CurS → α × CurS} (hp : Adv part) : ∀ (n : Nat) (acc : List α), Adv (fun s => clist part n s acc)
  | 0, acc => fun s h => ⟨h, Nat.le_refl _⟩
  | n + 1, acc => fun s h => by
    simp only [clist_succ] at h ⊢
    split at h
    · rename_i h1; exact absurd h h1
    · rename_i h1
      have h1 : (part s).2.2 = 0 := by simpa using h1
      rw [if_neg (fun h => h h1)]
      have h2 := clist_adv hp n (acc ++ [(part s).1]) (part s).2 h
      have h3 := hp s h1
      exact ⟨h3.1, Nat.le_trans h3.2 h2.2⟩
theorem rdLease_adv (bs : List UInt8) : Adv (rdLease bs) := fun s h => by
  have h2 := rdN_adv bs 8 _ h
  have h1 := rdN_adv bs 8 s h2.1
  exact ⟨h1.1, Nat.le_trans h1.2 h2.2⟩
theorem rdStmt_adv (bs : List UInt8) : Adv (rdStmt bs) := fun s h => by
  have h3 := rdN_adv bs 8 _ h
  have h2 := rdN_adv bs 8 _ h3.1
  have h1 := rdN_adv bs 8 s h2.1
  exact ⟨h1.1, Nat.le_trans h1.2 (Nat.le_trans h2.2 h3.2)⟩
theorem ctext_adv (bs : List UInt8) (k most : Nat) : Adv (fun s => ctext bs s.1 s.2 k most) := fun s h => by
  have key : ∀ (a : Nat) (e : Int) (j : Nat), (ctake bs a e j).2.2 = 0 → e = 0 ∧ a ≤ (ctake bs a e j).2.1 := by
    intro a e j h
    unfold ctake at *
    split at h
    · rename_i h1; exact absurd h h1
    split at h
    · simp at h
    · rename_i h1 h2; rw [if_neg h1, if_neg h2]; exact ⟨by simpa using h1, by simp⟩
  simp only [ctext] at h ⊢
  split at h
  · rename_i h1; exact absurd h h1
  rename_i h1
  split at h
  · simp at h
  rename_i h2
  rw [if_neg h1, if_neg h2]
  have h3 := key _ _ _ h
  have h4 := key s.1 s.2 k (by simpa using h1)
  exact ⟨h4.1, Nat.le_trans h4.2 h3.2⟩
theorem rdAcct_adv (bs : List UInt8) (s : CurS) (h : (rdAcct bs s).2.2 = 0) : s.1 + 1 ≤ (rdAcct bs s).2.1 := by
  unfold rdAcct at *
  simp only at *
  have h8 := clist_adv (rdStmt_adv bs) _ [] _ h
  have h7 := rdN_adv bs 4 _ h8.1
  have h6 := clist_adv (rdLease_adv bs) _ [] _ h7.1
  have h5 := rdN_adv bs 2 _ h6.1
  have h4 := rdN_adv bs 8 _ h5.1
  have h3 := rdN_adv bs 8 _ h4.1
  have h2 := rdN_ok (k := 8) h3.1
  have h1 := ctext_adv bs 1 255 s h2.1
  simp only at *
  omega
theorem rdAcct_le {bs : List UInt8} {s : CurS} (h : s.1 ≤ bs.length) : (rdAcct bs s).2.1 ≤ bs.length := by
  unfold rdAcct; simp only
  exact clist_le (fun s h => rdStmt_le h) _ _ _ (rdN_le (clist_le (fun s h => rdLease_le h) _ _ _ (rdN_le (rdN_le (rdN_le (rdN_le (ctext_le h)))))))
theorem clist_all {α : Type} {part : CurS → α × CurS} {p : α → Prop} (hp : ∀ s, p (part s).1) : ∀ (n : Nat) (s : CurS) (acc : List α), (∀ x ∈ acc, p x) → ∀ x ∈ (clist part n s acc).1, p x
  | 0, s, acc, h => h
  | n + 1, s, acc, h => by
    rw [clist_succ]; split
    · simp
    · refine clist_all hp n _ _ (fun x hx => ?_)
      rcases List.mem_append.1 hx with hx | hx
      · exact h x hx
      · rw [List.mem_singleton] at hx; subst hx; exact hp s
theorem rdLease_okk (bs : List UInt8) (s : CurS) : (rdLease bs s).1.ok := ⟨rdN_lt, rdN_lt⟩
theorem rdStmt_okk (bs : List UInt8) (s : CurS) : (rdStmt bs s).1.ok := by
  refine ⟨by simp [rdStmt], rdN_lt, rdN_lt, rdN_lt, ?_⟩
  show dueOf _ _ < _
  unfold dueOf; split
  · exact pdue_lt rdN_lt rdN_lt
  · decide
theorem nameS_okk (t : List UInt8) : ∀ (i : Nat) (l : List Stmt), (∀ s ∈ l, Stmt.ok s) → i + l.length < 18446744073709551616 → ∀ s ∈ nameS t i l, Stmt.ok s
  | i, [], _, _ => by simp [nameS]
  | i, x :: l, h, hi => by
    intro s hs
    simp only [nameS, List.mem_cons] at hs
    rcases hs with rfl | hs
    · have := h x (by simp); exact ⟨by simp at hi ⊢; omega, this.2.1, this.2.2.1, this.2.2.2.1, this.2.2.2.2⟩
    · exact nameS_okk t (i + 1) l (fun s hs => h s (by simp [hs])) (by simp at hi; omega) s hs
theorem rdAcct_okk {bs : List UInt8} {s : CurS} (hlen : bs.length ≤ 1099511627776) (hs : s.1 ≤ bs.length) : (rdAcct bs s).1.ok := by
  unfold rdAcct
  simp only
  have h1 := ctext_le (err := s.2) (k := 1) (most := 255) hs
  have h5 := rdN_le (k := 2) (rdN_le (k := 8) (rdN_le (k := 8) (rdN_le (k := 8) h1)))
  have h6 := clist_le (part := rdLease bs) (fun s h => rdLease_le h) (rdN bs 2 (rdN bs 8 (rdN bs 8 (rdN bs 8 (ctext bs s.1 s.2 1 255).2).2).2).2).1 _ [] h5
  have l6 := clist_len (part := rdLease bs) (fun s h => rdLease_ok h) (rdN bs 2 (rdN bs 8 (rdN bs 8 (rdN bs 8 (ctext bs s.1 s.2 1 255).2).2).2).2).1 (rdN bs 2 (rdN bs 8 (rdN bs 8 (rdN bs 8 (ctext bs s.1 s.2 1 255).2).2).2).2).2 [] (Nat.zero_le _)
  have h7 := rdN_le (k := 4) h6
  have h8 := clist_le (part := rdStmt bs) (fun s h => rdStmt_le h) (rdN bs 4 (clist (rdLease bs) (rdN bs 2 (rdN bs 8 (rdN bs 8 (rdN bs 8 (ctext bs s.1 s.2 1 255).2).2).2).2).1 (rdN bs 2 (rdN bs 8 (rdN bs 8 (rdN bs 8 (ctext bs s.1 s.2 1 255).2).2).2).2).2 []).2).1 _ [] h7
  have l8 := clist_len (part := rdStmt bs) (fun s h => rdStmt_ok h) (rdN bs 4 (clist (rdLease bs) (rdN bs 2 (rdN bs 8 (rdN bs 8 (rdN bs 8 (ctext bs s.1 s.2 1 255).2).2).2).2).1 (rdN bs 2 (rdN bs 8 (rdN bs 8 (rdN bs 8 (ctext bs s.1 s.2 1 255).2).2).2).2).2 []).2).1 (rdN bs 4 (clist (rdLease bs) (rdN bs 2 (rdN bs 8 (rdN bs 8 (rdN bs 8 (ctext bs s.1 s.2 1 255).2).2).2).2).1 (rdN bs 2 (rdN bs 8 (rdN bs 8 (rdN bs 8 (ctext bs s.1 s.2 1 255).2).2).2).2).2 []).2).2 [] (Nat.zero_le _)
  refine ⟨rdN_lt, rdN_lt, rdN_lt, by simp only; omega, clist_all (rdLease_okk bs) _ _ _ (by simp), ?_, by simp only; omega, by simp only [nameS_len]; omega⟩
  exact nameS_okk _ _ _ (clist_all (rdStmt_okk bs) _ _ _ (by simp)) (by omega)
theorem c_listA (μ : Mem) (hT : Tab (imm μ)) (p : Nat) (bs : List UInt8) (s : CurS) (n : Nat) (hn : n < 18446744073709551616) (hlen : bs.length ≤ 1099511627776) (hs : s.1 ≤ bs.length) :
    Fn Tryz.prog 86 [.pointer (some ⟨p, 0, none⟩), .int .u64 n, .func (.func 87) #[] #[]] [curs p bs s.1 s.2, imm μ]
      (Ret fun v L => ∃ ν ps ao cap, μ ≤ ν ∧ accts ps = (clist (rdAcct bs) n s []).1 ∧ AcctsR (imm ν) ps ∧ v = .slice ao ps.length cap ∧ L = [own ao cap acctT 7 ps.length (acctsV ps), curs p bs (clist (rdAcct bs) n s []).2.1 (clist (rdAcct bs) n s []).2.2, imm ν]) := by
  obtain ⟨R, hR⟩ : ∃ R, clist (rdAcct bs) n s [] = R := ⟨_, rfl⟩
  rw [hR]
  refine Fn.intro Tryz.call86 Tryz.func86 rfl Tryz.ntmps86 rfl ?_; intro g w Q hQ H
  refine sq ?_; intro K1 hK1; refine wp_region_lit ?_; refine xas rfl ?_; refine wpList_nil ?_; refine tn ?_; refine hK1 _ _ ?_; clear hK1 K1
  refine sq ?_; intro K2 hK2; refine wp_region_lit ?_; refine xas rfl ?_; refine wpList_nil ?_; refine tn ?_; refine hK2 _ _ ?_; clear hK2 K2
  refine sq ?_; intro K3 hK3; refine sq ?_; intro K4 hK4; refine wp_region_lit ?_; refine xmv rfl ?_; refine xmv rfl ?_; refine wpList_nil ?_
  refine tn ?_; refine hK4 _ _ ?_; clear hK4 K4; refine wp_block ?_
  replace H := H.ownNil acctT 7
  refine lp4 (α := Nat) (β := CurS) (γ := List AcctP) (δ := Mem × Option Addr × Nat) (fun i t ps al => [(0, .pointer (some ⟨p, 0, none⟩)), (2, .func (.func 87) #[] #[]), (7, .slice al.2.1 ps.length al.2.2), (9, .int .u64 n), (10, .int .u64 i)]) (fun i t ps al => [own al.2.1 al.2.2 acctT 7 ps.length (acctsV ps), curs p bs t.1 t.2, imm al.1]) (fun i t ps al => clist (rdAcct bs) (n - i) t (accts ps) = R ∧ t.1 ≤ bs.length ∧ ps.length ≤ t.1 ∧ i ≤ n ∧ μ ≤ al.1 ∧ AcctsR (imm al.1) ps) (fun i t ps al => n - i) (0) (s) ([]) ((μ, none, 0)) ⟨rfl, rfl, rfl, rfl, rfl, True.intro⟩ (⟨hR, hs, Nat.zero_le _, Nat.zero_le _, Mem.rfl, fun _ h => absurd h (by simp)⟩) H ?_; intro i t ps al ρ w hI H K5 hK5
  obtain ⟨hc, ht, hacc, hi, hμ, hA⟩ := hI
  obtain ⟨ν, ao, cap⟩ := al
  simp only at hμ hA H ⊢
  refine sq ?_; intro K6 hK6; refine wp_region_lit ?_; refine xlt rfl rfl ?_; refine wpList_nil ?_; refine tn ?_; refine hK6 _ _ ?_; clear hK6 K6
  refine sq ?_; intro K7 hK7
  refine if_ rfl (fun k1 => ?_) (fun k1 => ?_)
  · have k1 : i < n := by simpa using k1
    have hsub : n - i = (n - (i + 1)) + 1 := by omega
    rw [hsub, clist_succ] at hc
    have htl := rdAcct_le ht
    have hokk := rdAcct_okk hlen ht
    refine wp_skip ?_; refine tn ?_; refine hK7 _ _ ?_; clear hK7 K7; refine sq ?_; intro K8 hK8; refine wp_block ?_; refine sq ?_; intro K9 hK9
    refine wp_region_lit ?_; refine xmv rfl ?_; refine xmv rfl ?_
    refine xc [1, 1] H ((c_rdacct (imm ν) (hT.up hμ.sees) p bs t hlen ht)) rfl rfl rfl rfl rfl ?_; rintro _ _ w ⟨lo, lc, co, cc, rfl, rfl⟩ H; replace H := H.ap rfl
    refine xal H ?_; intro b8 w H
    (refine xsta 0 H rfl rfl rfl rfl rfl rfl ?_; intro w H)
    refine wpList_nil ?_; refine tn ?_; refine hK9 _ _ ?_; clear hK9 K9; refine sq ?_; intro K10 hK10; refine sq ?_; intro K11 hK11; refine wp_region_lit ?_
    refine xmv rfl ?_
    have hc1 := (H.front' [1] rfl rfl).ownLen
    have hc2 := (H.front' [2] rfl rfl).ownLen
    obtain ⟨ξ1, hξ1, hr1, H⟩ := (H.front' [1, 3] rfl rfl).freezeOwn
    obtain ⟨ξ2, hξ2, hr2, H⟩ := (H.front' [2, 0] rfl rfl).freezeOwn
    have hsees := hξ1.trans hξ2
    have hq : AcctP.r (imm ξ2) ⟨(rdAcct bs t).1, lo, lc, co, cc⟩ := ⟨hr1.up hξ2, hr2, hc1.2, hc2.2⟩
    refine xc [2] H ((c_err p bs (rdAcct bs t).2.1 (rdAcct bs t).2.2)) rfl rfl rfl rfl rfl ?_; rintro _ _ w ⟨rfl, rfl⟩ H; replace H := H.ap rfl
    refine xne rfl rfl ?_; refine wpList_nil ?_; refine tn ?_; refine hK11 _ _ ?_; clear hK11 K11
    refine if_ rfl (fun k2 => ?_) (fun k2 => ?_)
    · have k2 : (rdAcct bs t).2.2 ≠ 0 := by simpa using k2
      rw [if_pos k2] at hc
      refine sq ?_; intro K12 hK12; refine wp_region_lit ?_; refine xas rfl ?_; refine wpList_nil ?_; refine tn ?_; refine hK12 _ _ ?_; clear hK12 K12
      refine wp_ret ?_; refine tr ?_; clear hK10 K10; refine br ?_; refine tr ?_; clear hK8 K8; refine tr ?_; clear hK5 K5; refine br ?_; refine tr ?_; clear hK3 K3
      replace H := (H.keeps [0, 0] rfl).ownNil acctT 7
      replace H := H.keeps [0, 0, 0] rfl; refine hQ _ _ _ ?_; refine r1 rfl rfl H ?_
      rw [← hc]; exact ⟨ξ2, [], none, 0, hμ.trans hsees, rfl, fun _ h => absurd h (by simp), rfl, rfl⟩
    · have k2 : (rdAcct bs t).2.2 = 0 := by simpa using k2
      have hok := rdAcct_adv bs t k2
      rw [if_neg (fun h => h k2)] at hc
      refine wp_skip ?_; refine tn ?_; refine hK10 _ _ ?_; clear hK10 K10; refine wp_region_lit ?_; refine xmv rfl ?_
      refine xldab 2 H rfl rfl rfl rfl ?_
      refine xbs H rfl rfl rfl (by simp [Value.cells] <;> rfl) rfl rfl ?_; intro b20 w H
      refine xap 4 H rfl rfl rfl (src_at (news := AcctP.v ⟨(rdAcct bs t).1, lo, lc, co, cc⟩) 0 H rfl (St.ownRd H) rfl) (AcctP.one _) (by omega) (by simp only [maxLen]; omega) ?_; intro ao21 cap21 w H hn21
      refine xas rfl ?_; refine wpList_nil ?_; refine bn ?_; refine tn ?_; refine hK8 _ _ ?_; clear hK8 K8; refine wp_region_lit ?_
      refine xadn_u64 (b := 1) rfl rfl (by omega) ?_
      refine xmv rfl ?_; refine wpList_nil ?_
      have e1 : acctsV ps ++ AcctP.v ⟨(rdAcct bs t).1, lo, lc, co, cc⟩ = acctsV (ps ++ [⟨(rdAcct bs t).1, lo, lc, co, cc⟩]) := by simp [acctsV]
      have e2 : ps.length + 1 = (ps ++ [(⟨(rdAcct bs t).1, lo, lc, co, cc⟩ : AcctP)]).length := by simp
      rw [e1, e2] at H
      rw [e2]
      replace H := H.keeps [0, 1, 1] rfl
      refine tn ?_; refine hK5 _ _ (i + 1) ((rdAcct bs t).2) (ps ++ [⟨(rdAcct bs t).1, lo, lc, co, cc⟩]) ((ξ2, ao21, cap21)) ⟨rfl, rfl, rfl, rfl, rfl, True.intro⟩ ?_ H ?_
      · refine ⟨by rw [← hc]; simp [accts], htl, by simp; omega, k1, hμ.trans hsees, ?_⟩
        intro q hqm
        rcases List.mem_append.1 hqm with hqm | hqm
        · exact ⟨(hA q hqm).1, AcctR.sees (hA q hqm).2 hsees.sees⟩
        · rw [List.mem_singleton] at hqm; subst hqm; exact ⟨hokk, hq⟩
      · omega
  · have k1 : i = n := by have := of_decide_eq_false k1; omega
    subst k1
    rw [Nat.sub_self] at hc
    unfold clist at hc
    refine wp_exit ?_; refine te ?_; clear hK7 K7; refine te ?_; clear hK5 K5; refine be ?_; refine tn ?_; refine hK3 _ _ ?_; clear hK3 K3
    refine sq ?_; intro K8 hK8; refine wp_region_lit ?_; refine xmv rfl ?_; refine xas rfl ?_; refine wpList_nil ?_; refine tn ?_; refine hK8 _ _ ?_; clear hK8 K8
    refine wp_ret ?_
    refine hQ _ _ _ ?_; refine r1 rfl rfl H ?_
    rw [← hc]; exact ⟨ν, ps, ao, cap, hμ, rfl, hA, rfl, rfl⟩
end Go.Proofs.YtegllbmkkfnajaaGreatDoor
end
section
namespace Go.Proofs.YtegllbmkkfnajaaGreatDoor
open Go Go.Proofs
attribute [local irreducible] Go.wpList Go.Code.wp St Fn mk
set_option maxRecDepth 20000
def snapBody (b : List UInt8) : Ledg × CurS := let s := rdN b 8 (0, 0); let c := rdN b 1 s.2; let r := clist (rdAcct b) c.1 c.2 []; (⟨s.1, r.1⟩, r.2)
def snapDec (bs : List UInt8) : Except Int Ledg :=
  match openB bs with
  | none => .error 4
  | some b => if (snapBody b).2.2 ≠ 0 then .error 1 else if (decide (((b.length - (snapBody b).2.1 : Nat) : Int) > 0) || !ledgerRight (snapBody b).1) = true then .error 2 else .ok (snapBody b).1
def sdecR (μ : Mem) (r : Except Int Ledg) (v : Value) (L : List Asn) : Prop :=
  match r with
  | .ok l => ∃ ν ps ao cap, μ ≤ ν ∧ LedR (imm ν) l ps ao cap ∧ v = .tuple #[.agg (ledV l ao cap).toArray, .int .i64 0] ∧ L = [imm ν]
  | .error e => ∃ ν, μ ≤ ν ∧ v = .tuple #[.agg ledZ.toArray, .int .i64 e] ∧ L = [imm ν]
theorem c_sdec (μ : Mem) (hT : Tab (imm μ)) (ao : Option Addr) (cap : Nat) (bs : List UInt8) (hr : Bys (imm μ) ao bs) (hl : bs.length ≤ 1099511627776) (hcap : bs.length ≤ cap) :
    Fn Tryz.prog 56 [.slice ao bs.length cap] [imm μ] (Ret (sdecR μ (snapDec bs))) := by
  have ho := c_open (imm μ) ao cap bs hr hl hcap
  refine Fn.intro Tryz.call56 Tryz.func56 rfl Tryz.ntmps56 rfl ?_; intro g w Q hQ H
  refine sq ?_; intro K1 hK1; refine wp_region_lit ?_; refine xal H ?_; intro b2 w H; refine xas rfl ?_; refine wpList_nil ?_
  refine tn ?_; refine hK1 _ _ ?_; clear hK1 K1; refine sq ?_; intro K2 hK2; refine wp_region_lit ?_; refine xmv rfl ?_
  cases hob : openB bs with | none => ?_ | some b => ?_
  · rw [hob] at ho
    refine xc [1] H (ho) rfl rfl rfl rfl rfl ?_; rintro _ _ w ⟨rfl, rfl⟩ H; replace H := H.ap rfl
    refine xmv rfl ?_; refine xex rfl rfl ?_; refine xex rfl rfl ?_; refine xas rfl ?_; refine xas rfl ?_; refine wpList_nil ?_
    refine tn ?_; refine hK2 _ _ ?_; clear hK2 K2; refine sq ?_; intro K3 hK3; refine sq ?_; intro K4 hK4; refine wp_region_lit ?_; refine xmv rfl ?_
    refine xnt rfl ?_; refine wpList_nil ?_; refine tn ?_; refine hK4 _ _ ?_; clear hK4 K4; refine ift rfl ?_; refine sq ?_; intro K5 hK5; refine wp_region_lit ?_
    refine xbu rfl ?_
    (refine xsta 1 H rfl rfl rfl rfl rfl rfl ?_; intro w H)
    refine xas rfl ?_; refine wpList_nil ?_; refine tn ?_; refine hK5 _ _ ?_; clear hK5 K5; refine wp_ret ?_; refine tr ?_; clear hK3 K3
    refine hQ _ _ _ ?_
    refine rca1 0 [1] rfl rfl rfl H rfl (blk_cells (k := 2) rfl rfl) rfl rfl ?_
    have hd : snapDec bs = .error 4 := by unfold snapDec; rw [hob]
    rw [hd]; exact ⟨μ, Mem.rfl, rfl, rfl⟩
  · rw [hob] at ho
    refine xc [1] H (ho) rfl rfl rfl rfl rfl ?_; rintro _ _ w ⟨ao1, cap1, rfl, rfl⟩ H; replace H := H.ap rfl
    have hbl := openB_len hob
    have hb0 : b.length ≤ 1099511627776 := by omega
    have h1 := rdN_le (bs := b) (k := 8) (s := (0, 0)) (Nat.zero_le _)
    have h2 := rdN_le (k := 1) h1
    have hq : (rdN b 8 (0, 0)).1 < 18446744073709551616 := rdN_lt
    have hqn : (rdN b 1 (rdN b 8 (0, 0)).2).1 < 18446744073709551616 := rdN_lt' (by decide)
    have h3 := clist_le (part := rdAcct b) (fun s h => rdAcct_le h) (rdN b 1 (rdN b 8 (0, 0)).2).1 (rdN b 1 (rdN b 8 (0, 0)).2).2 [] h2
    have l3 := clist_len (part := rdAcct b) (fun s h => rdAcct_adv b s h) (rdN b 1 (rdN b 8 (0, 0)).2).1 (rdN b 1 (rdN b 8 (0, 0)).2).2 [] (Nat.zero_le _)
    have hsb : snapBody b = (⟨(rdN b 8 (0, 0)).1, (clist (rdAcct b) (rdN b 1 (rdN b 8 (0, 0)).2).1 (rdN b 1 (rdN b 8 (0, 0)).2).2 []).1⟩, (clist (rdAcct b) (rdN b 1 (rdN b 8 (0, 0)).2).1 (rdN b 1 (rdN b 8 (0, 0)).2).2 []).2) := rfl
    refine xmv rfl ?_; refine xex rfl rfl ?_; refine xex rfl rfl ?_; refine xas rfl ?_; refine xas rfl ?_; refine wpList_nil ?_
    refine tn ?_; refine hK2 _ _ ?_; clear hK2 K2; refine sq ?_; intro K3 hK3; refine sq ?_; intro K4 hK4; refine wp_region_lit ?_; refine xmv rfl ?_
    refine xnt rfl ?_; refine wpList_nil ?_; refine tn ?_; refine hK4 _ _ ?_; clear hK4 K4; refine iff_ rfl ?_; refine wp_skip ?_
    refine tn ?_; refine hK3 _ _ ?_; clear hK3 K3; refine sq ?_; intro K5 hK5; refine wp_region_lit ?_; refine xmv rfl ?_
    refine xc [0] H ((c_newcur (own ao1 cap1 5 1 b.length (bv b)) ao1 cap1 b H.ownRd hb0)) rfl rfl rfl rfl rfl ?_; rintro _ _ w ⟨p, rfl, rfl⟩ H; replace H := H.ap rfl
    refine xas rfl ?_; refine wpList_nil ?_; refine tn ?_; refine hK5 _ _ ?_; clear hK5 K5; refine sq ?_; intro K6 hK6; refine wp_region_lit ?_
    refine xal H ?_; intro b7 w H; refine wpList_nil ?_; refine tn ?_; refine hK6 _ _ ?_; clear hK6 K6; refine sq ?_; intro K7 hK7; refine wp_region_lit ?_
    refine xmv rfl ?_
    refine xc [1] H ((c_rdN p b (0, 0) 8 hb0 (Nat.zero_le _) (by simp))) rfl rfl rfl rfl rfl ?_; rintro _ _ w ⟨rfl, rfl⟩ H; replace H := H.ap rfl
    refine xfa rfl ?_
    (refine xst 1 H rfl rfl rfl rfl rfl ?_; intro w H)
    refine wpList_nil ?_; refine tn ?_; refine hK7 _ _ ?_; clear hK7 K7; refine sq ?_; intro K8 hK8; refine wp_region_lit ?_; refine xmv rfl ?_; refine xmv rfl ?_
    refine xc [1] H ((c_rdN p b (rdN b 8 (0, 0)).2 1 hb0 h1 (by simp))) rfl rfl rfl rfl rfl ?_; rintro _ _ w ⟨rfl, rfl⟩ H; replace H := H.ap rfl
    refine xc [0, 2] H ((c_listA μ hT p b (rdN b 1 (rdN b 8 (0, 0)).2).2 (rdN b 1 (rdN b 8 (0, 0)).2).1 hqn hb0 h2)) rfl rfl rfl rfl rfl ?_; rintro _ _ w ⟨ν, ps, ao2, cap2, hμ, hps, hA, rfl, rfl⟩ H; replace H := H.ap rfl
    generalize clist (rdAcct b) (rdN b 1 (rdN b 8 (0, 0)).2).1 (rdN b 1 (rdN b 8 (0, 0)).2).2 [] = r at hps h3 l3 hsb H ⊢
    have hpn : ps.length = r.1.length := by rw [← hps]; simp
    have hcp := H.ownLen
    obtain ⟨ξ, hξ, hrd, H⟩ := (H.front' [0, 1] rfl rfl).freezeOwn
    have hLed : LedR (imm ξ) ⟨(rdN b 8 (0, 0)).1, r.1⟩ ps ao2 cap2 := ⟨hps, hrd, hA.sees hξ.sees, hcp.2, by omega, hq⟩
    have hR := c_lright (imm ξ) (hT.up (hμ.trans hξ).sees) _ ps ao2 cap2 hLed
    rw [hpn]
    have hE := c_err p b r.2.1 r.2.2
    have hLf := c_left p b r.2.1 r.2.2 hb0 h3
    have hmx := hμ.trans hξ
    generalize rdN b 8 (0, 0) = q at *
    refine xfa rfl ?_
    (refine xst 2 H rfl rfl rfl rfl rfl ?_; intro w H)
    refine wpList_nil ?_; refine tn ?_; refine hK8 _ _ ?_; clear hK8 K8; refine sq ?_; intro K9 hK9; refine sq ?_; intro K10 hK10; refine wp_region_lit ?_
    refine xmv rfl ?_
    refine xc [2] H (hE) rfl rfl rfl rfl rfl ?_; rintro _ _ w ⟨rfl, rfl⟩ H; replace H := H.ap rfl
    refine xne rfl rfl ?_; refine wpList_nil ?_; refine tn ?_; refine hK10 _ _ ?_; clear hK10 K10
    refine if_ rfl (fun k1 => ?_) (fun k1 => ?_)
    · have k1 : r.2.2 ≠ 0 := by simpa using k1
      have hd : snapDec bs = .error 1 := by unfold snapDec; rw [hob]; simp only; rw [hsb, if_pos k1]
      refine sq ?_; intro K11 hK11; refine wp_region_lit ?_; refine xbu rfl ?_
      (refine xsta 4 H rfl rfl rfl rfl rfl rfl ?_; intro w H)
      refine xas rfl ?_; refine wpList_nil ?_; refine tn ?_; refine hK11 _ _ ?_; clear hK11 K11; refine wp_ret ?_; refine tr ?_; clear hK9 K9
      refine hQ _ _ _ ?_
      refine rca1 0 [3] rfl rfl rfl H rfl (blk_cells (k := 2) rfl rfl) rfl rfl ?_
      rw [hd]; exact ⟨ξ, hmx, rfl, rfl⟩
    · have k1 : r.2.2 = 0 := by simpa using k1
      refine wp_skip ?_; refine tn ?_; refine hK9 _ _ ?_; clear hK9 K9; refine sq ?_; intro K11 hK11; refine sq ?_; intro K12 hK12; refine wp_region_lit ?_
      refine xmv rfl ?_
      refine xc [0] H (hLf) rfl rfl rfl rfl rfl ?_; rintro _ _ w ⟨rfl, rfl⟩ H; replace H := H.ap rfl
      refine xgt rfl rfl ?_; refine xmv rfl ?_; refine jor (b := ?b1) 4 33 [34, 35, 36] 37 rfl rfl H (fun hhc1 hc1 => ?a1) (fun hhc1 hc1 => ?o1) ?_
      case a1 =>
        refine xgy rfl rfl rfl ?_
        refine xldab 1 H rfl rfl rfl rfl ?_
        refine xgy rfl rfl rfl ?_
        refine xc [2] H (hR) rfl rfl rfl rfl rfl ?_; rintro _ _ w ⟨rfl, rfl⟩ H; replace H := H.ap rfl
        replace H := H.keeps [1, 1, 0, 0, 0] rfl
        refine xgy rfl rfl rfl ?_; refine xnt rfl ?_; refine xpkf rfl rfl ?_; exact hc1 _ _ _ _ H
      case o1 =>
        refine xgn rfl rfl rfl ?_; refine xgn rfl rfl rfl ?_; refine xgn rfl rfl rfl ?_; refine xpkt rfl rfl ?_; exact hc1 _ _ _ _ H
      intro u34 u35 u36 w H; refine wpList_nil ?_; refine tn ?_; refine hK12 _ _ ?_; clear hK12 K12
      refine if_ rfl (fun k2 => ?_) (fun k2 => ?_)
      · have hd : snapDec bs = .error 2 := by unfold snapDec; rw [hob]; simp only; rw [hsb, if_neg (fun h => h k1), if_pos k2]
        refine sq ?_; intro K13 hK13; refine wp_region_lit ?_; refine xbu rfl ?_
        (refine xsta 4 H rfl rfl rfl rfl rfl rfl ?_; intro w H)
        refine xas rfl ?_; refine wpList_nil ?_; refine tn ?_; refine hK13 _ _ ?_; clear hK13 K13; refine wp_ret ?_; refine tr ?_; clear hK11 K11
        refine hQ _ _ _ ?_
        refine rca1 0 [3] rfl rfl rfl H rfl (blk_cells (k := 2) rfl rfl) rfl rfl ?_
        rw [hd]; exact ⟨ξ, hmx, rfl, rfl⟩
      · have hd : snapDec bs = .ok ⟨q.1, r.1⟩ := by unfold snapDec; rw [hob]; simp only; rw [hsb, if_neg (fun h => h k1), if_neg (by simp only; rw [k2]; decide)]
        refine wp_skip ?_; refine tn ?_; refine hK11 _ _ ?_; clear hK11 K11; refine sq ?_; intro K13 hK13; refine wp_region_lit ?_
        refine xldab 1 H rfl rfl rfl rfl ?_
        (refine xsta 4 H rfl rfl rfl rfl rfl rfl ?_; intro w H)
        refine xas rfl ?_; refine wpList_nil ?_; refine tn ?_; refine hK13 _ _ ?_; clear hK13 K13; refine wp_ret ?_
        refine hQ _ _ _ ?_
        refine rca1 0 [3] rfl rfl rfl H rfl (blk_cells (k := 2) rfl rfl) rfl rfl ?_
        rw [hd]; exact ⟨ξ, ps, ao2, cap2, hmx, hLed, rfl, rfl⟩
end Go.Proofs.YtegllbmkkfnajaaGreatDoor
end
section
namespace Go.Proofs.YtegllbmkkfnajaaGreatDoor
open Go Go.Proofs
attribute [local irreducible] Go.wpList Go.Code.wp St Fn mk
set_option maxRecDepth 20000
structure DFile where
  name : List UInt8
  data : List UInt8
  sure : Nat
deriving DecidableEq
structure Dsk where
  files : List DFile
  cap : Nat
  calls : Nat
  armed : Bool
  left : Nat
  keep : Int
  down : Bool
structure FP where
  f : DFile
  b : Nat
  ao : Option Addr
  cap : Nat
abbrev fileT : Nat := 61
abbrev diskT : Nat := 57
def FP.c (p : FP) : Asn := pak [blk p.b [.slice p.ao p.f.data.length p.cap, .int .i64 p.f.sure] fileT, own p.ao p.cap 5 1 p.f.data.length (bv p.f.data)]
def filesC (ps : List FP) : Asn := pak (ps.map FP.c)
def FP.kv (p : FP) : KV := (p.f.name, .pointer (some ⟨p.b, 0, none⟩))
def dskV (D : Dsk) (bm : Nat) : List Value := [.map (some bm), .int .i64 D.cap, .int .u64 D.calls, .bool D.armed, .int .u64 D.left, .int .i64 D.keep, .bool D.down]
def dskC (b : Nat) (D : Dsk) : Asn :=
  exv (fun x : Nat × List FP => x.2.map FP.f = D.files) fun x => [blk b (dskV D x.1) diskT, smap x.1 (x.2.map FP.kv), filesC x.2]
def Dsk.size (D : Dsk) : Nat := (D.files.map fun f => f.data.length).sum
structure Dsk.ok (D : Dsk) : Prop where
  names : (D.files.map DFile.name).Nodup
  sure : ∀ f ∈ D.files, f.sure ≤ f.data.length
  size : D.size ≤ D.cap
  cap : D.cap ≤ 1099511627000
  calls : D.calls < 18446744073709551616
  left : D.left < 18446744073709551616
  keep : -9223372036854775808 ≤ D.keep ∧ D.keep ≤ 9223372036854775807
section
variable {g : Gh} {w : World} {L : List Asn}
theorem St.undsk {b : Nat} {D : Dsk} (H : St g w (dskC b D :: L)) : ∃ bm ps, ps.map FP.f = D.files ∧ St g w (blk b (dskV D bm) diskT :: smap bm (ps.map FP.kv) :: filesC ps :: L) := by
  obtain ⟨⟨bm, ps⟩, h, H⟩ := H.unexv
  exact ⟨bm, ps, h, H⟩
theorem St.todsk {b bm : Nat} {D : Dsk} {ps : List FP} (h : ps.map FP.f = D.files) (H : St g w (blk b (dskV D bm) diskT :: smap bm (ps.map FP.kv) :: filesC ps :: L)) : St g w (dskC b D :: L) :=
  St.toexv (bm, ps) h H
theorem St.filesPerm {ps qs : List FP} (h : ps.Perm qs) (H : St g w (filesC ps :: L)) : St g w (filesC qs :: L) := by
  have H1 : St g w (ps.map FP.c ++ L) := St.unpak H
  have H2 : St g w (qs.map FP.c ++ L) := H1.perm ((h.map FP.c).append_right L)
  exact St.topak H2
theorem St.unfile {p : FP} {ps : List FP} (H : St g w (filesC (p :: ps) :: L)) :
    St g w (blk p.b [.slice p.ao p.f.data.length p.cap, .int .i64 p.f.sure] fileT :: own p.ao p.cap 5 1 p.f.data.length (bv p.f.data) :: filesC ps :: L) := by
  have H1 : St g w (p.c :: (ps.map FP.c ++ L)) := St.unpak H
  have H2 : St g w (blk p.b [.slice p.ao p.f.data.length p.cap, .int .i64 p.f.sure] fileT :: own p.ao p.cap 5 1 p.f.data.length (bv p.f.data) :: (ps.map FP.c ++ L)) := St.unpak H1
  have H3 : St g w (ps.map FP.c ++ (blk p.b [.slice p.ao p.f.data.length p.cap, .int .i64 p.f.sure] fileT :: own p.ao p.cap 5 1 p.f.data.length (bv p.f.data) :: L)) :=
    H2.perm (by
      have := List.perm_append_comm_assoc [blk p.b [.slice p.ao p.f.data.length p.cap, .int .i64 p.f.sure] fileT, own p.ao p.cap 5 1 p.f.data.length (bv p.f.data)] (ps.map FP.c) L
      simpa using this)
  have H4 : St g w (filesC ps :: (blk p.b [.slice p.ao p.f.data.length p.cap, .int .i64 p.f.sure] fileT :: own p.ao p.cap 5 1 p.f.data.length (bv p.f.data) :: L)) := St.topak H3
  exact H4.front' [1, 1] rfl rfl
theorem St.tofile {p : FP} {ps : List FP} (H : St g w (blk p.b [.slice p.ao p.f.data.length p.cap, .int .i64 p.f.sure] fileT :: own p.ao p.cap 5 1 p.f.data.length (bv p.f.data) :: filesC ps :: L)) : St g w (filesC (p :: ps) :: L) := by
  have H1 : St g w (filesC ps :: (blk p.b [.slice p.ao p.f.data.length p.cap, .int .i64 p.f.sure] fileT :: own p.ao p.cap 5 1 p.f.data.length (bv p.f.data) :: L)) := H.front' [2] rfl rfl
  have H2 : St g w (ps.map FP.c ++ (blk p.b [.slice p.ao p.f.data.length p.cap, .int .i64 p.f.sure] fileT :: own p.ao p.cap 5 1 p.f.data.length (bv p.f.data) :: L)) := St.unpak H1
  have H3 : St g w (blk p.b [.slice p.ao p.f.data.length p.cap, .int .i64 p.f.sure] fileT :: own p.ao p.cap 5 1 p.f.data.length (bv p.f.data) :: (ps.map FP.c ++ L)) :=
    H2.perm (by
      have := (List.perm_append_comm_assoc [blk p.b [.slice p.ao p.f.data.length p.cap, .int .i64 p.f.sure] fileT, own p.ao p.cap 5 1 p.f.data.length (bv p.f.data)] (ps.map FP.c) L).symm
      simpa using this)
  have H4 : St g w (p.c :: (ps.map FP.c ++ L)) := St.topak H3
  exact St.topak (M := p.c :: ps.map FP.c) H4
end
def newD (c : Int) : Dsk := ⟨[], (max c 0).toNat, 0, false, 0, 0, false⟩
theorem c_dnew (c : Int) : Fn Tryz.prog 7 [.int .i64 c] [] (Ret fun v L => ∃ b, v = .pointer (some ⟨b, 0, none⟩) ∧ L = [dskC b (newD c)]) := by
  refine Fn.intro Tryz.call7 Tryz.func7 rfl Tryz.ntmps7 rfl ?_; intro g w Q hQ H
  refine sq ?_; intro K1 hK1; refine wp_region_lit ?_; refine xas rfl ?_; refine wpList_nil ?_; refine tn ?_; refine hK1 _ _ ?_; clear hK1 K1
  refine sq ?_; intro K2 hK2; refine wp_region_lit ?_
  refine xmm H ?_; intro b3 w H
  refine xmv rfl ?_; refine xmx rfl rfl ?_; refine xbu rfl ?_; refine xbx H rfl rfl ?_; intro b7 w H; refine xas rfl ?_; refine wpList_nil ?_
  refine tn ?_; refine hK2 _ _ ?_; clear hK2 K2; refine wp_ret ?_
  have e : (if 0 > c then 0 else c) = (((max c 0).toNat : Nat) : Int) := by split <;> omega
  rw [e] at H
  replace H : St g w (filesC [] :: _) := St.topak (M := []) H
  replace H : St g w [dskC b7 (newD c)] := St.todsk (bm := b3) (ps := []) rfl (H.front' [1, 1, 0] rfl rfl)
  refine hQ _ _ _ ?_; refine r1 rfl rfl H ?_
  exact ⟨_, rfl, rfl⟩
end Go.Proofs.YtegllbmkkfnajaaGreatDoor
end
section
namespace Go.Proofs.YtegllbmkkfnajaaGreatDoor
open Go Go.Proofs
attribute [local irreducible] Go.wpList Go.Code.wp St Fn mk
set_option maxRecDepth 20000
def sumF (ps : List FP) : Nat := (ps.map fun p => p.f.data.length).sum
theorem sumF_perm {ps qs : List FP} (h : ps.Perm qs) : sumF ps = sumF qs := by
  induction h with
  | nil => rfl
  | cons x _ ih => simp only [sumF, List.map_cons, List.sum_cons] at *; omega
  | swap x y l => simp only [sumF, List.map_cons, List.sum_cons]; omega
  | trans _ _ h1 h2 => exact h1.trans h2
theorem map_split {α β : Type} {f : α → β} {l : List α} {a c : List β} {p : β} (h : l.map f = a ++ p :: c) : ∃ la q lc, l = la ++ q :: lc ∧ la.map f = a ∧ f q = p ∧ lc.map f = c := by
  obtain ⟨la, r, rfl, h1, h2⟩ := List.map_eq_append_iff.1 h
  obtain ⟨q, lc, rfl, h3, h4⟩ := List.map_eq_cons_iff.1 h2
  exact ⟨la, q, lc, rfl, h1, h3, h4⟩
theorem c_dsize (b : Nat) (D : Dsk) (hD : D.size ≤ 1099511627776) :
    Fn Tryz.prog 64 [.pointer (some ⟨b, 0, none⟩)] [dskC b D] (Ret fun v L => v = .int .i64 (D.size : Nat) ∧ L = [dskC b D]) := by
  refine Fn.intro Tryz.call64 Tryz.func64 rfl Tryz.ntmps64 rfl ?_; intro g w Q hQ H
  obtain ⟨bm, ps, hps, H⟩ := H.undsk
  have hsz : sumF ps = D.size := by unfold sumF Dsk.size; rw [← hps, List.map_map]; rfl
  refine sq ?_; intro K1 hK1; refine wp_region_lit ?_; refine xas rfl ?_; refine wpList_nil ?_; refine tn ?_; refine hK1 _ _ ?_; clear hK1 K1
  refine sq ?_; intro K2 hK2; refine sq ?_; intro K3 hK3; refine wp_region_lit ?_; refine xmv rfl ?_; refine xpns rfl rfl ?_; refine wpList_nil ?_
  refine tn ?_; refine hK3 _ _ ?_; clear hK3 K3; refine iff_ rfl ?_; refine wp_skip ?_; refine tn ?_; refine hK2 _ _ ?_; clear hK2 K2; refine sq ?_; intro K4 hK4
  refine wp_region_lit ?_; refine xas rfl ?_; refine wpList_nil ?_; refine tn ?_; refine hK4 _ _ ?_; clear hK4 K4; refine sq ?_; intro K5 hK5
  refine sq ?_; intro K6 hK6; refine wp_region_lit ?_; refine xmv rfl ?_
  refine xnc rfl ?_
  refine xfa rfl ?_
  refine xldb 0 H rfl rfl rfl ?_
  refine xmr 1 H rfl rfl ?_; intro it w H
  refine wpList_nil ?_; refine tn ?_; refine hK6 _ _ ?_; clear hK6 K6; refine wp_block ?_
  refine lp4 (α := Nat) (β := List FP) (γ := List FP) (δ := Option KV) (fun n lf dn cur => [(3, .int .i64 n), (12, .pointer (some ⟨it, 0, none⟩))]) (fun n lf dn cur => [mrng bm it (ps.map FP.kv) (lf.map FP.kv) cur, blk b (dskV D bm) diskT, filesC (dn ++ lf)]) (fun n lf dn cur => (dn ++ lf).Perm ps ∧ n + sumF lf = D.size) (fun n lf dn cur => lf.length) (0) (ps) ([]) (none) ⟨rfl, rfl, True.intro⟩ (⟨by simp, by omega⟩) H ?_; intro n lf dn cur ρ w hI H K7 hK7
  obtain ⟨hpm, hn⟩ := hI
  refine sq ?_; intro K8 hK8; refine wp_region_lit ?_
  refine xmnx 0 H rfl rfl (fun hl H => ?_) (fun a p c w hl H => ?_)
  · have hl : lf = [] := by simpa using hl
    subst hl
    refine xex rfl rfl ?_; refine wpList_nil ?_; refine tn ?_; refine hK8 _ _ ?_; clear hK8 K8; refine sq ?_; intro K9 hK9; refine iff_ rfl ?_; refine wp_exit ?_
    refine te ?_; clear hK9 K9; refine te ?_; clear hK7 K7; refine be ?_; refine tn ?_; refine hK5 _ _ ?_; clear hK5 K5; refine sq ?_; intro K10 hK10
    refine wp_region_lit ?_; refine xmv rfl ?_; refine xas rfl ?_; refine wpList_nil ?_; refine tn ?_; refine hK10 _ _ ?_; clear hK10 K10; refine wp_ret ?_
    rw [List.append_nil] at hpm H
    replace H := H.unrange
    replace H := St.filesPerm hpm (H.front' [2] rfl rfl)
    replace H := St.todsk hps (H.front' [2, 1, 0] rfl rfl)
    have hz : sumF ([] : List FP) = 0 := rfl
    refine hQ _ _ _ ?_; refine r1 rfl rfl H ?_
    exact ⟨by rw [show n = D.size by omega], rfl⟩
  · obtain ⟨la, q, lc, rfl, rfl, rfl, rfl⟩ := map_split hl
    refine xex rfl rfl ?_; refine wpList_nil ?_; refine tn ?_; refine hK8 _ _ ?_; clear hK8 K8; refine sq ?_; intro K9 hK9; refine ift rfl ?_; refine wp_skip ?_
    refine tn ?_; refine hK9 _ _ ?_; clear hK9 K9; refine wp_block ?_; refine sq ?_; intro K10 hK10; refine wp_region_lit ?_
    refine xme 0 H rfl rfl ?_
    have hp2 : (dn ++ (la ++ q :: lc)).Perm (q :: (dn ++ (la ++ lc))) := by rw [← List.append_assoc, ← List.append_assoc]; exact List.perm_middle
    replace H := St.unfile (St.filesPerm hp2 (H.front' [2] rfl rfl))
    have hs : sumF (la ++ q :: lc) = q.f.data.length + sumF (la ++ lc) := by
      have := sumF_perm (List.perm_middle (a := q) (l₁ := la) (l₂ := lc)); rw [this]; simp [sumF]
    refine xex rfl rfl ?_; refine xas rfl ?_; refine wpList_nil ?_; refine tn ?_; refine hK10 _ _ ?_; clear hK10 K10; refine wp_region_lit ?_; refine xmv rfl ?_
    refine xmv rfl ?_
    refine xnc rfl ?_
    refine xfa rfl ?_
    refine xldb 0 H rfl rfl rfl ?_
    refine xli rfl ?_
    refine xadi rfl rfl (wi64 (by omega)) ?_
    refine xas rfl ?_; refine wpList_nil ?_; refine bn ?_
    replace H := St.tofile H
    replace H := St.filesPerm (qs := (q :: dn) ++ (la ++ lc)) (by simp) H
    rw [← List.map_append] at H
    replace H := H.front' [1, 1, 0] rfl rfl
    refine tn ?_; refine hK7 _ _ (n + q.f.data.length) (la ++ lc) (q :: dn) (some q.kv) ⟨rfl, rfl, True.intro⟩ ?_ H ?_
    · exact ⟨(hp2.symm.trans hpm), by omega⟩
    · simp
end Go.Proofs.YtegllbmkkfnajaaGreatDoor
end
section
namespace Go.Proofs.YtegllbmkkfnajaaGreatDoor
open Go Go.Proofs
attribute [local irreducible] Go.wpList Go.Code.wp St Fn mk
set_option maxRecDepth 20000
theorem St.ownTake {g : Gh} {w : World} {L : List Asn} {ao : Option Addr} {cap E sz nn : Nat} {cells : List Value} (m : Nat) (hm : m ≤ nn) (H : St g w (own ao cap E sz nn cells :: L)) : St g w (own ao cap E sz m (cells.take (m * sz)) :: L) := by
  refine St.conv (fun w F h => ?_) H
  obtain ⟨h1, h2, h3⟩ := h
  have hle : m * sz ≤ nn * sz := Nat.mul_le_mul_right _ hm
  refine ⟨by rw [List.length_take]; omega, Nat.le_trans hm h2, ?_⟩
  rcases h3 with h3 | ⟨b, off, c, fr, e, hF, hh, hU, hs, hc⟩
  · exact .inl h3
  · refine .inr ⟨b, off, c, fr, e, hF, hh, hU, hs, ?_⟩
    rw [← hc, List.take_take, Nat.min_eq_left hle]
def crashM (k : Int) (f : DFile) : Nat := (min (max k 0) ((f.data.length : Int) - f.sure)).toNat
def crashF (k : Int) (f : DFile) : DFile := { f with data := f.data.take (f.sure + crashM k f), sure := f.sure + crashM k f }
def crashP (k : Int) (p : FP) : FP := { p with f := crashF k p.f }
def crashD (D : Dsk) (k : Int) : Dsk := { D with files := D.files.map (crashF k), armed := false, left := 0, keep := 0, down := true }
theorem sum_mem {l : List DFile} {f : DFile} (h : f ∈ l) : f.data.length ≤ (l.map fun f => f.data.length).sum := by
  induction l with
  | nil => cases h
  | cons x l ih =>
    rcases List.mem_cons.1 h with rfl | h
    · simp
    · have := ih h; simp only [List.map_cons, List.sum_cons]; omega
theorem Dsk.ok.file {D : Dsk} (h : D.ok) {f : DFile} (hf : f ∈ D.files) : f.sure ≤ f.data.length ∧ f.data.length ≤ 1099511627776 := by
  have := sum_mem hf
  have h1 := h.size
  have h2 := h.cap
  unfold Dsk.size at h1
  exact ⟨h.sure f hf, by omega⟩
theorem c_crash (b : Nat) (D : Dsk) (k : Int) (hD : D.ok) :
    Fn Tryz.prog 8 [.pointer (some ⟨b, 0, none⟩), .int .i64 k] [dskC b D] (Ret fun v L => v = .tuple #[] ∧ L = [dskC b (crashD D k)]) := by
  refine Fn.intro Tryz.call8 Tryz.func8 rfl Tryz.ntmps8 rfl ?_; intro g w Q hQ H
  obtain ⟨bm, ps, hps, H⟩ := H.undsk
  have hsure : ∀ p ∈ ps, p.f.sure ≤ p.f.data.length ∧ p.f.data.length ≤ 1099511627776 := fun p hp => hD.file (by rw [← hps]; exact List.mem_map_of_mem hp)
  refine sq ?_; intro K1 hK1; refine sq ?_; intro K2 hK2; refine wp_region_lit ?_; refine xmv rfl ?_; refine xpns rfl rfl ?_; refine wpList_nil ?_
  refine tn ?_; refine hK2 _ _ ?_; clear hK2 K2; refine iff_ rfl ?_; refine wp_skip ?_; refine tn ?_; refine hK1 _ _ ?_; clear hK1 K1; refine sq ?_; intro K3 hK3
  refine sq ?_; intro K4 hK4; refine wp_region_lit ?_; refine xmv rfl ?_
  refine xnc rfl ?_
  refine xfa rfl ?_
  refine xldb 0 H rfl rfl rfl ?_
  refine xmr 1 H rfl rfl ?_; intro it w H
  refine wpList_nil ?_; refine tn ?_; refine hK4 _ _ ?_; clear hK4 K4; refine wp_block ?_
  refine lp3 (α := List FP) (β := List FP) (γ := Option KV) (fun lf dn cur => [(0, .pointer (some ⟨b, 0, none⟩)), (1, .int .i64 k), (13, .pointer (some ⟨it, 0, none⟩))]) (fun lf dn cur => [mrng bm it (ps.map FP.kv) (lf.map FP.kv) cur, blk b (dskV D bm) diskT, filesC (dn.map (crashP k) ++ lf)]) (fun lf dn cur => (dn ++ lf).Perm ps) (fun lf dn cur => lf.length) (ps) ([]) (none) ⟨rfl, rfl, rfl, True.intro⟩ ((by simp)) H ?_; intro lf dn cur ρ w hI H K5 hK5
  refine sq ?_; intro K6 hK6; refine wp_region_lit ?_
  refine xmnx 0 H rfl rfl (fun hl H => ?_) (fun a p c w hl H => ?_)
  · have hl : lf = [] := by simpa using hl
    subst hl
    rw [List.append_nil] at hI H
    replace H := H.unrange
    have hpm := hI.map (crashP k)
    replace H := St.filesPerm hpm (H.front' [2] rfl rfl)
    replace H := H.front' [2, 1, 0] rfl rfl
    refine xex rfl rfl ?_; refine wpList_nil ?_; refine tn ?_; refine hK6 _ _ ?_; clear hK6 K6; refine sq ?_; intro K7 hK7; refine iff_ rfl ?_; refine wp_exit ?_
    refine te ?_; clear hK7 K7; refine te ?_; clear hK5 K5; refine be ?_; refine tn ?_; refine hK3 _ _ ?_; clear hK3 K3; refine sq ?_; intro K8 hK8
    refine wp_region_lit ?_; refine xmv rfl ?_; refine xmv rfl ?_; refine xmv rfl ?_
    refine xnc rfl ?_
    refine xfa rfl ?_
    (refine xst 0 H rfl rfl rfl rfl rfl ?_; intro w H)
    refine xnc rfl ?_
    refine xfa rfl ?_
    (refine xst 0 H rfl rfl rfl rfl rfl ?_; intro w H)
    refine xnc rfl ?_
    refine xfa rfl ?_
    (refine xst 0 H rfl rfl rfl rfl rfl ?_; intro w H)
    refine wpList_nil ?_; refine tn ?_; refine hK8 _ _ ?_; clear hK8 K8; refine wp_region_lit ?_; refine xmv rfl ?_
    refine xnc rfl ?_
    refine xfa rfl ?_
    (refine xst 0 H rfl rfl rfl rfl rfl ?_; intro w H)
    refine wpList_nil ?_
    have hkv : ps.map FP.kv = (ps.map (crashP k)).map FP.kv := by rw [List.map_map]; rfl
    rw [hkv] at H
    replace H := St.todsk (D := crashD D k) (by rw [List.map_map]; unfold crashD; simp only; rw [← hps, List.map_map]; rfl) H
    refine hQ _ _ _ ?_; refine n0 rfl H ?_
    exact ⟨rfl, rfl⟩
  · obtain ⟨la, q, lc, rfl, rfl, rfl, rfl⟩ := map_split hl
    refine xex rfl rfl ?_; refine wpList_nil ?_; refine tn ?_; refine hK6 _ _ ?_; clear hK6 K6; refine sq ?_; intro K7 hK7; refine ift rfl ?_; refine wp_skip ?_
    refine tn ?_; refine hK7 _ _ ?_; clear hK7 K7; refine wp_block ?_; refine sq ?_; intro K8 hK8; refine wp_region_lit ?_
    refine xme 0 H rfl rfl ?_
    have hp2 : (dn.map (crashP k) ++ (la ++ q :: lc)).Perm (q :: (dn.map (crashP k) ++ (la ++ lc))) := by rw [← List.append_assoc, ← List.append_assoc]; exact List.perm_middle
    have hp3 : (dn ++ (la ++ q :: lc)).Perm (q :: (dn ++ (la ++ lc))) := by rw [← List.append_assoc, ← List.append_assoc]; exact List.perm_middle
    replace H := St.unfile (St.filesPerm hp2 (H.front' [2] rfl rfl))
    obtain ⟨hq1, hq2⟩ := hsure q ((hp3.symm.trans hI).subset (by simp))
    have e : (q.f.sure : Int) + (if (q.f.data.length : Int) - q.f.sure < (if 0 > k then 0 else k) then (q.f.data.length : Int) - q.f.sure else if 0 > k then 0 else k) = ((q.f.sure + crashM k q.f : Nat) : Int) := by
      unfold crashM; split <;> split <;> omega
    have hle : q.f.sure + crashM k q.f ≤ q.f.data.length := by unfold crashM; omega
    have hcp := (H.front' [1] rfl rfl).ownLen
    refine xex rfl rfl ?_; refine xas rfl ?_; refine wpList_nil ?_; refine tn ?_; refine hK8 _ _ ?_; clear hK8 K8; refine sq ?_; intro K9 hK9
    refine drws (m := 14) 100000 rfl rfl H ?_; clear H; intro w H; refine dt' 0 rfl (by kernel_rfl) H (ymv rfl) ?_
    refine dt' 1 rfl (by kernel_rfl) H (ymx rfl rfl) ?_; refine dt' 2 rfl (by kernel_rfl) H (ymv rfl) ?_
    refine dt' 3 rfl (by kernel_rfl) H (ync rfl) ?_
    refine dt' 4 rfl (by kernel_rfl) H (yfa rfl) ?_
    refine dt 5 rfl (by kernel_rfl) H (zldb 0 rfl rfl rfl) ?_
    refine dt' 6 rfl (by kernel_rfl) H (yli rfl) ?_; refine dt' 7 rfl (by kernel_rfl) H (ymv rfl) ?_
    refine dt' 8 rfl (by kernel_rfl) H (ync rfl) ?_
    refine dt' 9 rfl (by kernel_rfl) H (yfa rfl) ?_
    refine dt 10 rfl (by kernel_rfl) H (zldb 0 rfl rfl rfl) ?_
    refine dt' 11 rfl (by kernel_rfl) H (ysbi rfl rfl (wi64 (by omega))) ?_
    refine dt' 12 rfl (by kernel_rfl) H (ymn rfl rfl) ?_; refine dt' 13 rfl (by kernel_rfl) H (yas rfl) ?_; refine dd (by kernel_rfl) ?_
    refine tn ?_; refine hK9 _ _ ?_; clear hK9 K9; refine sq ?_; intro K10 hK10; refine wp_region_lit ?_; refine xmv rfl ?_
    refine xnc rfl ?_
    refine xfa rfl ?_
    refine xldb 0 H rfl rfl rfl ?_
    refine xmv rfl ?_
    refine xadi rfl rfl (wi64 (by omega)) ?_
    refine xnc rfl ?_
    refine xfa rfl ?_
    (refine xst 0 H rfl rfl rfl rfl rfl ?_; intro w H)
    refine wpList_nil ?_; refine tn ?_; refine hK10 _ _ ?_; clear hK10 K10
    rw [e] at H
    refine drws (m := 13) 12 rfl rfl H ?_; clear H; intro w H; refine dt' 0 rfl (by kernel_rfl) H (ymv rfl) ?_; refine dt' 1 rfl (by kernel_rfl) H (ymv rfl) ?_
    refine dt' 2 rfl (by kernel_rfl) H (ync rfl) ?_
    refine dt' 3 rfl (by kernel_rfl) H (yfa rfl) ?_
    refine dt 4 rfl (by kernel_rfl) H (zldb 0 rfl rfl rfl) ?_
    refine dt' 5 rfl (by kernel_rfl) H (ymv rfl) ?_
    refine dt' 6 rfl (by kernel_rfl) H (ync rfl) ?_
    refine dt' 7 rfl (by kernel_rfl) H (yfa rfl) ?_
    refine dt 8 rfl (by kernel_rfl) H (zldb 0 rfl rfl rfl) ?_
    refine do1 9 rfl (by kernel_rfl) ?_; intro K11 hK11
    refine xsl0 (h := q.f.sure + crashM k q.f) rfl rfl rfl (by omega) ?_
    refine wpList_nil ?_; refine tn ?_; refine hK11 _ _ (fun _ => H) ?_; clear hK11 K11; refine do1 10 rfl (by kernel_rfl) ?_; intro K12 hK12
    refine xnc rfl ?_
    refine wpList_nil ?_; refine tn ?_; refine hK12 _ _ (fun _ => H) ?_; clear hK12 K12; refine dt' 11 rfl (by kernel_rfl) H (yfa rfl) ?_
    refine do1 12 rfl (by kernel_rfl) ?_; intro K13 hK13
    (refine xst 0 H rfl rfl rfl rfl rfl ?_; intro w H)
    refine wpList_nil ?_; refine tn ?_; refine hK13 _ _ (fun h => absurd rfl h) ?_; clear hK13 K13; refine dd (by kernel_rfl) ?_; refine bn ?_
    replace H := (H.front' [1] rfl rfl).ownTake (q.f.sure + crashM k q.f) hle
    rw [Nat.mul_one, show (bv q.f.data).take (q.f.sure + crashM k q.f) = bv (q.f.data.take (q.f.sure + crashM k q.f)) by simp [bv, List.map_take]] at H
    have hlen : (q.f.data.take (q.f.sure + crashM k q.f)).length = q.f.sure + crashM k q.f := by rw [List.length_take]; omega
    replace H : St g w (filesC (crashP k q :: (dn.map (crashP k) ++ (la ++ lc))) :: _) := St.tofile (p := crashP k q) (by
      have := H.front' [1, 0, 0] rfl rfl
      simp only [crashP, crashF]; rw [hlen]; exact this)
    rw [← List.map_append] at H
    replace H := H.front' [1, 1, 0] rfl rfl
    refine tn ?_; refine hK5 _ _ (la ++ lc) (q :: dn) (some q.kv) ⟨rfl, rfl, rfl, True.intro⟩ ?_ H ?_
    · exact hp3.symm.trans hI
    · simp
end Go.Proofs.YtegllbmkkfnajaaGreatDoor
end
section
namespace Go.Proofs.YtegllbmkkfnajaaGreatDoor
open Go Go.Proofs
attribute [local irreducible] Go.wpList Go.Code.wp St Fn mk
set_option maxRecDepth 20000
theorem c_dup (b : Nat) (D : Dsk) : Fn Tryz.prog 18 [.pointer (some ⟨b, 0, none⟩)] [dskC b D] (Ret fun v L => v = .tuple #[] ∧ L = [dskC b { D with down := false }]) := by
  refine Fn.intro Tryz.call18 Tryz.func18 rfl Tryz.ntmps18 rfl ?_; intro g w Q hQ H
  obtain ⟨bm, ps, hps, H⟩ := H.undsk
  refine sq ?_; intro K1 hK1; refine wp_region_lit ?_; refine xmv rfl ?_; refine xpms rfl rfl ?_; refine wpList_nil ?_
  refine tn ?_; refine hK1 _ _ ?_; clear hK1 K1; refine ift rfl ?_; refine wp_region_lit ?_; refine xmv rfl ?_
  refine xnc rfl ?_
  refine xfa rfl ?_
  (refine xst 0 H rfl rfl rfl rfl rfl ?_; intro w H)
  refine wpList_nil ?_
  replace H := St.todsk (D := { D with down := false }) hps H
  refine hQ _ _ _ ?_; refine n0 rfl H ?_
  exact ⟨rfl, rfl⟩
theorem c_ddown (b : Nat) (D : Dsk) : Fn Tryz.prog 57 [.pointer (some ⟨b, 0, none⟩)] [dskC b D] (Ret fun v L => v = .bool D.down ∧ L = [dskC b D]) := by
  refine Fn.intro Tryz.call57 Tryz.func57 rfl Tryz.ntmps57 rfl ?_; intro g w Q hQ H
  obtain ⟨bm, ps, hps, H⟩ := H.undsk
  refine sq ?_; intro K1 hK1; refine wp_region_lit ?_; refine xas rfl ?_; refine wpList_nil ?_; refine tn ?_; refine hK1 _ _ ?_; clear hK1 K1
  refine sq ?_; intro K2 hK2; refine wp_region_lit ?_; refine xmv rfl ?_; refine xpns rfl rfl ?_; refine xmv rfl ?_; refine xgy rfl rfl rfl ?_; refine xmv rfl ?_
  refine xgy rfl rfl rfl ?_
  refine xnc rfl ?_
  refine xgy rfl rfl rfl ?_; refine xfa rfl ?_; refine xgy rfl rfl rfl ?_
  refine xldb 0 H rfl rfl rfl ?_
  refine xpkf rfl rfl ?_; refine xas rfl ?_; refine wpList_nil ?_; refine tn ?_; refine hK2 _ _ ?_; clear hK2 K2; refine wp_ret ?_
  replace H := St.todsk hps H
  refine hQ _ _ _ ?_; refine r1 rfl rfl H ?_
  exact ⟨by simp, rfl⟩
def beginD (D : Dsk) : Bool × Dsk :=
  if D.down = true then (false, D)
  else if D.armed = true then
    if D.left = 0 then (false, crashD D D.keep) else (true, { D with left := D.left - 1, calls := (D.calls + 1) % 18446744073709551616 })
  else (true, { D with calls := (D.calls + 1) % 18446744073709551616 })
theorem c_dbegin (b : Nat) (D : Dsk) (hD : D.ok) : Fn Tryz.prog 62 [.pointer (some ⟨b, 0, none⟩)] [dskC b D] (Ret fun v L => v = .bool (beginD D).1 ∧ L = [dskC b (beginD D).2]) := by
  have hcl := hD.calls
  have hlf := hD.left
  have hcr := c_crash b D D.keep hD
  refine Fn.intro Tryz.call62 Tryz.func62 rfl Tryz.ntmps62 rfl ?_; intro g w Q hQ H
  obtain ⟨bm, ps, hps, H⟩ := H.undsk
  refine sq ?_; intro K1 hK1; refine wp_region_lit ?_; refine xas rfl ?_; refine wpList_nil ?_; refine tn ?_; refine hK1 _ _ ?_; clear hK1 K1
  refine sq ?_; intro K2 hK2; refine sq ?_; intro K3 hK3; refine wp_region_lit ?_; refine xmv rfl ?_; refine xpns rfl rfl ?_; refine xmv rfl ?_
  refine xgy rfl rfl rfl ?_; refine xmv rfl ?_; refine xgy rfl rfl rfl ?_
  refine xnc rfl ?_
  refine xgy rfl rfl rfl ?_; refine xfa rfl ?_; refine xgy rfl rfl rfl ?_
  refine xldb 0 H rfl rfl rfl ?_
  refine xpkf rfl rfl ?_; refine wpList_nil ?_; refine tn ?_; refine hK3 _ _ ?_; clear hK3 K3
  refine if_ rfl (fun h1 => ?_) (fun h1 => ?_)
  · have h1 : D.down = true := by simpa using h1
    have e : beginD D = (false, D) := by unfold beginD; rw [if_pos h1]
    refine sq ?_; intro K4 hK4; refine wp_region_lit ?_; refine xas rfl ?_; refine wpList_nil ?_; refine tn ?_; refine hK4 _ _ ?_; clear hK4 K4; refine wp_ret ?_
    refine tr ?_; clear hK2 K2
    replace H := St.todsk hps H
    refine hQ _ _ _ ?_; refine r1 rfl rfl H ?_
    rw [e]; exact ⟨rfl, rfl⟩
  · have h1 : ¬ D.down = true := by simpa using h1
    refine wp_skip ?_; refine tn ?_; refine hK2 _ _ ?_; clear hK2 K2; refine sq ?_; intro K4 hK4; refine sq ?_; intro K5 hK5; refine wp_region_lit ?_
    refine xmv rfl ?_
    refine xnc rfl ?_
    refine xfa rfl ?_
    refine xldb 0 H rfl rfl rfl ?_
    refine wpList_nil ?_; refine tn ?_; refine hK5 _ _ ?_; clear hK5 K5
    refine if_ rfl (fun h2 => ?_) (fun h2 => ?_)
    · have h2 : D.armed = true := h2
      refine sq ?_; intro K6 hK6; refine sq ?_; intro K7 hK7; refine wp_region_lit ?_; refine xmv rfl ?_
      refine xnc rfl ?_
      refine xfa rfl ?_
      refine xldb 0 H rfl rfl rfl ?_
      refine xeq rfl rfl ?_; refine wpList_nil ?_; refine tn ?_; refine hK7 _ _ ?_; clear hK7 K7
      refine if_ rfl (fun h3 => ?_) (fun h3 => ?_)
      · have h3 : D.left = 0 := by simpa using h3
        have e : beginD D = (false, crashD D D.keep) := by unfold beginD; rw [if_neg h1, if_pos h2, if_pos h3]
        refine sq ?_; intro K8 hK8; refine wp_region_lit ?_; refine xmv rfl ?_; refine xmv rfl ?_
        refine xnc rfl ?_
        refine xfa rfl ?_
        refine xldb 0 H rfl rfl rfl ?_
        replace H := St.todsk hps H
        refine xc [0] H (hcr) rfl rfl rfl rfl rfl ?_; rintro _ _ w ⟨rfl, rfl⟩ H; replace H := H.ap rfl
        refine wpList_nil ?_; refine tn ?_; refine hK8 _ _ ?_; clear hK8 K8; refine sq ?_; intro K9 hK9; refine wp_region_lit ?_; refine xas rfl ?_; refine wpList_nil ?_
        refine tn ?_; refine hK9 _ _ ?_; clear hK9 K9; refine wp_ret ?_; refine tr ?_; clear hK6 K6; refine tr ?_; clear hK4 K4
        refine hQ _ _ _ ?_; refine r1 rfl rfl H ?_
        rw [e]; exact ⟨rfl, rfl⟩
      · have h3 : ¬ D.left = 0 := by simpa using h3
        have e : beginD D = (true, { D with left := D.left - 1, calls := (D.calls + 1) % 18446744073709551616 }) := by unfold beginD; rw [if_neg h1, if_pos h2, if_neg h3]
        refine wp_skip ?_; refine tn ?_; refine hK6 _ _ ?_; clear hK6 K6; refine wp_region_lit ?_; refine xmv rfl ?_
        refine xnc rfl ?_
        refine xfa rfl ?_
        refine xldb 0 H rfl rfl rfl ?_
        refine xsbn_u64 (b := 1) rfl rfl (by omega) (by omega) ?_
        refine xnc rfl ?_
        refine xfa rfl ?_
        (refine xst 0 H rfl rfl rfl rfl rfl ?_; intro w H)
        refine wpList_nil ?_; refine tn ?_; refine hK4 _ _ ?_; clear hK4 K4; refine sq ?_; intro K8 hK8; refine wp_region_lit ?_; refine xmv rfl ?_
        refine xnc rfl ?_
        refine xfa rfl ?_
        refine xldb 0 H rfl rfl rfl ?_
        refine xadm_u64 (b := 1) rfl rfl ?_
        refine xnc rfl ?_
        refine xfa rfl ?_
        (refine xst 0 H rfl rfl rfl rfl rfl ?_; intro w H)
        refine wpList_nil ?_; refine tn ?_; refine hK8 _ _ ?_; clear hK8 K8; refine sq ?_; intro K9 hK9; refine wp_region_lit ?_; refine xas rfl ?_; refine wpList_nil ?_
        refine tn ?_; refine hK9 _ _ ?_; clear hK9 K9; refine wp_ret ?_
        replace H := St.todsk (D := { D with left := D.left - 1, calls := (D.calls + 1) % 18446744073709551616 }) hps H
        refine hQ _ _ _ ?_; refine r1 rfl rfl H ?_
        rw [e]; exact ⟨rfl, rfl⟩
    · have h2 : ¬ D.armed = true := by rw [h2]; decide
      have e : beginD D = (true, { D with calls := (D.calls + 1) % 18446744073709551616 }) := by unfold beginD; rw [if_neg h1, if_neg h2]
      refine wp_skip ?_; refine tn ?_; refine hK4 _ _ ?_; clear hK4 K4; refine sq ?_; intro K6 hK6; refine wp_region_lit ?_; refine xmv rfl ?_
      refine xnc rfl ?_
      refine xfa rfl ?_
      refine xldb 0 H rfl rfl rfl ?_
      refine xadm_u64 (b := 1) rfl rfl ?_
      refine xnc rfl ?_
      refine xfa rfl ?_
      (refine xst 0 H rfl rfl rfl rfl rfl ?_; intro w H)
      refine wpList_nil ?_; refine tn ?_; refine hK6 _ _ ?_; clear hK6 K6; refine sq ?_; intro K7 hK7; refine wp_region_lit ?_; refine xas rfl ?_; refine wpList_nil ?_
      refine tn ?_; refine hK7 _ _ ?_; clear hK7 K7; refine wp_ret ?_
      replace H := St.todsk (D := { D with calls := (D.calls + 1) % 18446744073709551616 }) hps H
      refine hQ _ _ _ ?_; refine r1 rfl rfl H ?_
      rw [e]; exact ⟨rfl, rfl⟩
end Go.Proofs.YtegllbmkkfnajaaGreatDoor
end
section
namespace Go.Proofs.YtegllbmkkfnajaaGreatDoor
open Go Go.Proofs
attribute [local irreducible] Go.wpList Go.Code.wp St Fn mk
set_option maxRecDepth 20000
def fget : List DFile → List UInt8 → Option DFile
  | [], _ => none
  | g :: l, n => if g.name = n then some g else fget l n
def fput : List DFile → DFile → List DFile
  | [], f => [f]
  | g :: l, f => if g.name = f.name then f :: l else g :: fput l f
def fdel : List DFile → List UInt8 → List DFile
  | [], _ => []
  | g :: l, n => if g.name = n then l else g :: fdel l n
theorem fget_at : ∀ {pre : List DFile} {f : DFile} {post : List DFile}, (∀ q ∈ pre, q.name ≠ f.name) → fget (pre ++ f :: post) f.name = some f
  | [], f, post, _ => by simp [fget]
  | g :: pre, f, post, h => by
    have := fget_at (pre := pre) (f := f) (post := post) (fun q hq => h q (by simp [hq]))
    simp only [List.cons_append, fget, if_neg (h g (by simp)), this]
theorem fput_at : ∀ {pre : List DFile} {f f' : DFile} {post : List DFile}, (∀ q ∈ pre, q.name ≠ f.name) → f'.name = f.name → fput (pre ++ f :: post) f' = pre ++ f' :: post
  | [], f, f', post, _, h => by simp [fput, h]
  | g :: pre, f, f', post, hn, h => by
    have := fput_at (pre := pre) (f := f) (f' := f') (post := post) (fun q hq => hn q (by simp [hq])) h
    simp only [List.cons_append, fput, if_neg (show ¬ g.name = f'.name by rw [h]; exact hn g (by simp)), this]
theorem fdel_at : ∀ {pre : List DFile} {f : DFile} {post : List DFile}, (∀ q ∈ pre, q.name ≠ f.name) → fdel (pre ++ f :: post) f.name = pre ++ post
  | [], f, post, _ => by simp [fdel]
  | g :: pre, f, post, h => by
    have := fdel_at (pre := pre) (f := f) (post := post) (fun q hq => h q (by simp [hq]))
    simp only [List.cons_append, fdel, if_neg (h g (by simp)), this]
theorem fget_no : ∀ {l : List DFile} {n : List UInt8}, (∀ q ∈ l, q.name ≠ n) → fget l n = none
  | [], _, _ => rfl
  | g :: l, n, h => by have ih := fget_no (l := l) (n := n) (fun q hq => h q (List.mem_cons_of_mem _ hq)); simp [fget, h g (List.mem_cons_self ..), ih]
theorem fput_no : ∀ {l : List DFile} {f : DFile}, (∀ q ∈ l, q.name ≠ f.name) → fput l f = l ++ [f]
  | [], _, _ => rfl
  | g :: l, f, h => by have ih := fput_no (l := l) (f := f) (fun q hq => h q (List.mem_cons_of_mem _ hq)); simp [fput, h g (List.mem_cons_self ..), ih]
theorem ps_find (n : List UInt8) : ∀ (ps : List FP), (∃ pre p post, ps = pre ++ p :: post ∧ p.f.name = n ∧ (∀ q ∈ pre, q.f.name ≠ n) ∧ findK (ps.map FP.kv) n = some (pre.length, .pointer (some ⟨p.b, 0, none⟩))) ∨
    ((∀ q ∈ ps, q.f.name ≠ n) ∧ findK (ps.map FP.kv) n = none)
  | [] => .inr ⟨by simp, rfl⟩
  | p :: ps => by
    by_cases h : p.f.name = n
    · refine .inl ⟨[], p, ps, rfl, h, by simp, ?_⟩
      simp [findK, FP.kv, h]
    · have hk : findK ((p :: ps).map FP.kv) n = match findK (ps.map FP.kv) n with | some (i, v) => some (i + 1, v) | none => none := by
        simp only [List.map_cons, findK]; rw [if_neg (by intro e; exact h e.symm)]; rfl
      rcases ps_find n ps with ⟨pre, q, post, h1, h2, h3, h4⟩ | ⟨h1, h2⟩
      · refine .inl ⟨p :: pre, q, post, by rw [h1]; rfl, h2, ?_, by rw [hk, h4]; rfl⟩
        intro x hx; rcases List.mem_cons.1 hx with rfl | hx
        · exact h
        · exact h3 x hx
      · refine .inr ⟨?_, by rw [hk, h2]⟩
        intro x hx; rcases List.mem_cons.1 hx with rfl | hx
        · exact h
        · exact h1 x hx
def addF (fs : List DFile) (n b : List UInt8) : List DFile := fput fs (match fget fs n with | some f => { f with data := f.data ++ b } | none => ⟨n, b, 0⟩)
def addD (D : Dsk) (n b : List UInt8) : Dsk := { D with files := addF D.files n b }
theorem c_dadd (A : Asn) (b : Nat) (D : Dsk) (n bs : List UInt8) (bo : Option Addr) (bc : Nat) (hr : Bys A bo bs) (hD : D.ok) (hb : bs.length ≤ 1099511627776) :
    Fn Tryz.prog 65 [.pointer (some ⟨b, 0, none⟩), .string (str n), .slice bo bs.length bc] [dskC b D, A] (Ret fun v L => v = .tuple #[] ∧ L = [dskC b (addD D n bs), A]) := by
  refine Fn.intro Tryz.call65 Tryz.func65 rfl Tryz.ntmps65 rfl ?_; intro g w Q hQ H
  obtain ⟨bm, ps, hps, H⟩ := H.undsk
  refine sq ?_; intro K1 hK1; refine wp_region_lit ?_; refine xmv rfl ?_
  refine xnc rfl ?_
  refine xfa rfl ?_
  refine xldb 0 H rfl rfl rfl ?_
  refine xmv rfl ?_
  refine xlk 1 H rfl rfl rfl ?_
  unfold getK
  rcases ps_find n ps with ⟨pre, p, post, rfl, hn, hpre, hk⟩ | ⟨hno, hk⟩
  · rw [hk]
    simp only [Option.getD_some]
    have hf := hD.file (f := p.f) (by rw [← hps]; simp)
    replace H := St.unfile (St.filesPerm (List.perm_middle) (H.front' [2] rfl rfl))
    refine xas rfl ?_; refine wpList_nil ?_; refine tn ?_; refine hK1 _ _ ?_; clear hK1 K1; refine sq ?_; intro K2 hK2; refine sq ?_; intro K3 hK3
    refine wp_region_lit ?_; refine xmv rfl ?_; refine xpns rfl rfl ?_; refine wpList_nil ?_; refine tn ?_; refine hK3 _ _ ?_; clear hK3 K3; refine iff_ rfl ?_
    refine wp_skip ?_; refine tn ?_; refine hK2 _ _ ?_; clear hK2 K2; refine wp_region_lit ?_; refine xmv rfl ?_; refine xmv rfl ?_
    refine xnc rfl ?_
    refine xfa rfl ?_
    refine xldb 0 H rfl rfl rfl ?_
    refine xmv rfl ?_
    refine xap 1 H rfl rfl rfl (src_at (news := bv bs) 5 H rfl hr (by simp)) (bv_one _) (by omega) (by simp only [maxLen]; omega) ?_; intro ao28 cap28 w H hn28
    refine xnc rfl ?_
    refine xfa rfl ?_
    (refine xst 1 H rfl rfl rfl rfl rfl ?_; intro w H)
    refine wpList_nil ?_
    have e1 : p.f.data.length + bs.length = (p.f.data ++ bs).length := by simp
    rw [e1, ← bv_append] at H
    obtain ⟨p', hp'⟩ : ∃ p' : FP, p' = ⟨{ p.f with data := p.f.data ++ bs }, p.b, ao28, cap28⟩ := ⟨_, rfl⟩
    replace H : St g w (filesC (p' :: (pre ++ post)) :: _) := St.tofile (p := p') (by rw [hp']; exact H)
    replace H := St.filesPerm (List.perm_middle.symm) H
    have hkv : (pre ++ p :: post).map FP.kv = (pre ++ p' :: post).map FP.kv := by rw [hp']; simp [FP.kv]
    rw [hkv] at H
    have hfs : (pre ++ p' :: post).map FP.f = (addD D n bs).files := by
      unfold addD addF; simp only
      rw [← hps, List.map_append, List.map_cons, List.map_append, List.map_cons, ← hn, fget_at (by intro q hq; obtain ⟨x, hx, rfl⟩ := List.mem_map.1 hq; rw [hn]; exact hpre x hx)]
      simp only
      rw [fput_at (f := p.f) (f' := { p.f with data := p.f.data ++ bs }) (by intro q hq; obtain ⟨x, hx, rfl⟩ := List.mem_map.1 hq; rw [hn]; exact hpre x hx) rfl, hp']
    replace H := St.todsk (D := addD D n bs) hfs (H.front' [1, 1, 0] rfl rfl)
    refine hQ _ _ _ ?_; refine n0 rfl H ?_
    exact ⟨rfl, rfl⟩
  · rw [hk]
    simp only [Option.getD_none]
    refine xas rfl ?_; refine wpList_nil ?_; refine tn ?_; refine hK1 _ _ ?_; clear hK1 K1; refine sq ?_; intro K2 hK2; refine sq ?_; intro K3 hK3
    refine wp_region_lit ?_; refine xmv rfl ?_
    refine xpnz rfl rfl ?_
    refine wpList_nil ?_; refine tn ?_; refine hK3 _ _ ?_; clear hK3 K3; refine ift rfl ?_; refine sq ?_; intro K4 hK4; refine wp_region_lit ?_
    refine xal H ?_; intro b15 w H; refine xas rfl ?_; refine wpList_nil ?_; refine tn ?_; refine hK4 _ _ ?_; clear hK4 K4; refine wp_region_lit ?_
    refine xmv rfl ?_
    refine xnc rfl ?_
    refine xfa rfl ?_
    refine xldb 1 H rfl rfl rfl ?_
    refine xmv rfl ?_; refine xmv rfl ?_
    refine xmu 2 H rfl rfl rfl rfl ?_; intro w H
    rw [show putK (ps.map FP.kv) n (.pointer (some ⟨b15, 0, none⟩)) = ps.map FP.kv ++ [(n, .pointer (some ⟨b15, 0, none⟩))] by unfold putK; rw [hk]] at H
    replace H := H.ownNil 5 1
    refine wpList_nil ?_; refine tn ?_; refine hK2 _ _ ?_; clear hK2 K2; refine wp_region_lit ?_; refine xmv rfl ?_; refine xmv rfl ?_
    refine xnc rfl ?_
    refine xfa rfl ?_
    refine xldb 2 H rfl rfl rfl ?_
    refine xmv rfl ?_
    refine xap 0 H rfl rfl rfl (src_at (news := bv bs) 5 H rfl hr (by simp)) (bv_one _) (by omega) (by simp only [maxLen]; omega) ?_; intro ao28 cap28 w H hn28
    refine xnc rfl ?_
    refine xfa rfl ?_
    (refine xst 2 H rfl rfl rfl rfl rfl ?_; intro w H)
    refine wpList_nil ?_
    rw [Nat.zero_add, List.nil_append] at H
    obtain ⟨p', hp'⟩ : ∃ p' : FP, p' = ⟨⟨n, bs, 0⟩, b15, ao28, cap28⟩ := ⟨_, rfl⟩
    replace H : St g w (filesC (p' :: ps) :: _) := St.tofile (p := p') (by rw [hp']; exact H.front' [0, 0, 2] rfl rfl)
    replace H := St.filesPerm (qs := ps ++ [p']) (by have := (List.perm_append_comm (l₁ := [p']) (l₂ := ps)); simpa using this) H
    have hkv : ps.map FP.kv ++ [(n, .pointer (some ⟨b15, 0, none⟩))] = (ps ++ [p']).map FP.kv := by rw [hp']; simp [FP.kv]
    rw [hkv] at H
    have hno' : ∀ q ∈ D.files, q.name ≠ n := by rw [← hps]; intro q hq; obtain ⟨x, hx, rfl⟩ := List.mem_map.1 hq; exact hno x hx
    have hfs : (ps ++ [p']).map FP.f = (addD D n bs).files := by
      unfold addD addF; simp only
      rw [fget_no hno']; simp only
      rw [fput_no hno', ← hps, hp']; simp
    replace H := St.todsk (D := addD D n bs) hfs (H.front' [2, 1, 0] rfl rfl)
    refine hQ _ _ _ ?_; refine n0 rfl H ?_
    exact ⟨rfl, rfl⟩
end Go.Proofs.YtegllbmkkfnajaaGreatDoor
end
section
namespace Go.Proofs.YtegllbmkkfnajaaGreatDoor
open Go Go.Proofs
attribute [local irreducible] Go.wpList Go.Code.wp St Fn mk
set_option maxRecDepth 20000
theorem crashF_sum (k : Int) : ∀ l : List DFile, ((l.map (crashF k)).map fun f => f.data.length).sum ≤ (l.map fun f => f.data.length).sum
  | [] => Nat.le_refl _
  | f :: l => by
    have ih := crashF_sum k l
    have : (crashF k f).data.length ≤ f.data.length := by unfold crashF; simp only; rw [List.length_take]; omega
    simp only [List.map_cons, List.sum_cons]; omega
theorem crashD_ok {D : Dsk} (h : D.ok) (k : Int) : (crashD D k).ok := by
  refine ⟨?_, ?_, ?_, h.cap, h.calls, by simp [crashD], by simp [crashD]⟩
  · have : (crashD D k).files.map DFile.name = D.files.map DFile.name := by unfold crashD; simp only; rw [List.map_map]; rfl
    rw [this]; exact h.names
  · intro f hf
    obtain ⟨x, hx, rfl⟩ := List.mem_map.1 hf
    have := h.sure x hx
    unfold crashF crashM; simp only; rw [List.length_take]; omega
  · have := crashF_sum k D.files
    have h2 := h.size
    unfold Dsk.size at *
    exact Nat.le_trans this h2
theorem beginD_ok {D : Dsk} (h : D.ok) : (beginD D).2.ok := by
  unfold beginD
  split
  · exact h
  split
  · split
    · exact crashD_ok h _
    · exact ⟨h.names, h.sure, h.size, h.cap, Nat.mod_lt _ (by decide), by have := h.left; simp only; omega, h.keep⟩
  · exact ⟨h.names, h.sure, h.size, h.cap, Nat.mod_lt _ (by decide), h.left, h.keep⟩
theorem ps_look {ps : List FP} {fs : List DFile} (hps : ps.map FP.f = fs) (n : List UInt8) :
    (∃ pre p post, ps = pre ++ p :: post ∧ p.f.name = n ∧ (∀ q ∈ pre, q.f.name ≠ n) ∧ (getK (ps.map FP.kv) n).getD (.pointer none) = .pointer (some ⟨p.b, 0, none⟩) ∧ fget fs n = some p.f) ∨
    ((∀ q ∈ ps, q.f.name ≠ n) ∧ (getK (ps.map FP.kv) n).getD (.pointer none) = .pointer none ∧ fget fs n = none) := by
  rcases ps_find n ps with ⟨pre, p, post, h1, h2, h3, h4⟩ | ⟨h1, h2⟩
  · refine .inl ⟨pre, p, post, h1, h2, h3, by unfold getK; rw [h4]; rfl, ?_⟩
    rw [← hps, h1, List.map_append, List.map_cons, ← h2]
    exact fget_at (by intro q hq; obtain ⟨x, hx, rfl⟩ := List.mem_map.1 hq; rw [h2]; exact h3 x hx)
  · refine .inr ⟨h1, by unfold getK; rw [h2]; rfl, ?_⟩
    rw [← hps]; exact fget_no (by intro q hq; obtain ⟨x, hx, rfl⟩ := List.mem_map.1 hq; exact h1 x hx)
theorem dskC_cell {b j : Nat} {D : Dsk} {v : Value} (h : ∀ bm, nthV (dskV D bm) j = some v) : (dskC b D).cell ⟨b, j, none⟩ v := by
  rintro w F ⟨⟨bm, ps⟩, _, F1, F2, h1, _⟩
  exact blk_cell (h bm) w F1 h1
def appendD (D : Dsk) (n b : List UInt8) : Int × Dsk :=
  if (beginD D).1 = false then (19, (beginD D).2)
  else if targetOk n = false then (7, (beginD D).2)
  else if ((fget (beginD D).2.files n).isNone && decide (((beginD D).2.files.length : Int) ≥ 1024)) = true then (15, (beginD D).2)
  else if (beginD D).2.cap - (beginD D).2.size < b.length then (10, (beginD D).2)
  else (0, addD (beginD D).2 n b)
theorem c_dappend (A : Asn) (b : Nat) (D : Dsk) (n bs : List UInt8) (bo : Option Addr) (bc : Nat) (hr : Bys A bo bs) (hD : D.ok) (hb : bs.length ≤ 1099511627776) :
    Fn Tryz.prog 43 [.pointer (some ⟨b, 0, none⟩), .string (str n), .slice bo bs.length bc] [dskC b D, A] (Ret fun v L => v = .int .i64 (appendD D n bs).1 ∧ L = [dskC b (appendD D n bs).2, A]) := by
  have hok := beginD_ok hD
  unfold appendD
  have hbg := c_dbegin b D hD
  obtain ⟨r, hr0⟩ : ∃ r, beginD D = r := ⟨_, rfl⟩
  rw [hr0] at hok hbg ⊢
  obtain ⟨bg, D1⟩ := r
  simp only at hok hbg ⊢
  have hsz := c_dsize b D1 (by have := hok.size; have := hok.cap; omega)
  have hsz2 := hok.size
  have hcap2 := hok.cap
  refine Fn.intro Tryz.call43 Tryz.func43 rfl Tryz.ntmps43 rfl ?_; intro g w Q hQ H
  refine sq ?_; intro K1 hK1; refine wp_region_lit ?_; refine xas rfl ?_; refine wpList_nil ?_; refine tn ?_; refine hK1 _ _ ?_; clear hK1 K1
  refine sq ?_; intro K2 hK2; refine sq ?_; intro K3 hK3; refine wp_region_lit ?_; refine xmv rfl ?_
  refine xc [0] H (hbg) rfl rfl rfl rfl rfl ?_; rintro _ _ w ⟨rfl, rfl⟩ H; replace H := H.ap rfl
  refine xnt rfl ?_; refine wpList_nil ?_; refine tn ?_; refine hK3 _ _ ?_; clear hK3 K3
  refine if_ rfl (fun h1 => ?_) (fun h1 => ?_)
  · have h1 : bg = false := by simpa using h1
    refine sq ?_; intro K4 hK4; refine wp_region_lit ?_; refine xas rfl ?_; refine wpList_nil ?_; refine tn ?_; refine hK4 _ _ ?_; clear hK4 K4; refine wp_ret ?_
    refine tr ?_; clear hK2 K2
    refine hQ _ _ _ ?_; refine r1 rfl rfl H ?_
    rw [if_pos h1]; exact ⟨rfl, rfl⟩
  · have h1 : ¬ bg = false := by simpa using h1
    refine wp_skip ?_; refine tn ?_; refine hK2 _ _ ?_; clear hK2 K2; refine sq ?_; intro K4 hK4; refine sq ?_; intro K5 hK5; refine wp_region_lit ?_
    refine xmv rfl ?_
    refine xc [] H ((c_target n)) rfl rfl rfl rfl rfl ?_; rintro _ _ w ⟨rfl, rfl⟩ H; replace H := H.ap rfl
    refine xnt rfl ?_; refine wpList_nil ?_; refine tn ?_; refine hK5 _ _ ?_; clear hK5 K5
    refine if_ rfl (fun h2 => ?_) (fun h2 => ?_)
    · have h2 : targetOk n = false := by simpa using h2
      refine sq ?_; intro K6 hK6; refine wp_region_lit ?_; refine xas rfl ?_; refine wpList_nil ?_; refine tn ?_; refine hK6 _ _ ?_; clear hK6 K6; refine wp_ret ?_
      refine tr ?_; clear hK4 K4
      refine hQ _ _ _ ?_; refine r1 rfl rfl H ?_
      rw [if_neg h1, if_pos h2]; exact ⟨rfl, rfl⟩
    · have h2 : ¬ targetOk n = false := by simpa using h2
      obtain ⟨bm, ps, hps, H⟩ := H.undsk
      refine wp_skip ?_; refine tn ?_; refine hK4 _ _ ?_; clear hK4 K4; refine sq ?_; intro K6 hK6; refine sq ?_; intro K7 hK7; refine wp_region_lit ?_
      refine xmv rfl ?_
      refine xnc rfl ?_
      refine xfa rfl ?_
      refine xldb 0 H rfl rfl rfl ?_
      refine xmv rfl ?_
      refine xlk 1 H rfl rfl rfl ?_
      have hpl : ps.length = D1.files.length := by rw [← hps]; simp
      rcases ps_look hps n with ⟨pre, p, post, hpe, hn, hpre, hk, hg⟩ | ⟨hno, hk, hg⟩
      · rw [hk]
        have h3 : ¬ ((fget D1.files n).isNone && decide ((D1.files.length : Int) ≥ 1024)) = true := by rw [hg]; simp
        refine xpns rfl rfl ?_; refine xmv rfl ?_; refine xgn rfl rfl rfl ?_; refine xgn rfl rfl rfl ?_; refine xgn rfl rfl rfl ?_; refine xgn rfl rfl rfl ?_
        refine xgn rfl rfl rfl ?_; refine xgn rfl rfl rfl ?_; refine xpkf rfl rfl ?_; refine wpList_nil ?_; refine tn ?_; refine hK7 _ _ ?_; clear hK7 K7
        refine iff_ rfl ?_; refine wp_skip ?_; refine tn ?_; refine hK6 _ _ ?_; clear hK6 K6; refine sq ?_; intro K8 hK8; refine sq ?_; intro K9 hK9
        replace H := St.todsk hps H
        have hcc : (dskC b D1).cell ⟨b, 1, none⟩ (.int .i64 D1.cap) := dskC_cell (fun bm => rfl)
        refine drws (m := 10) 100000 rfl rfl H ?_; clear H; intro w H; refine dt' 0 rfl (by kernel_rfl) H (ymv rfl) ?_; refine dt' 1 rfl (by kernel_rfl) H (yli rfl) ?_
        refine dt' 2 rfl (by kernel_rfl) H (ymv rfl) ?_
        refine dt' 3 rfl (by kernel_rfl) H (ync rfl) ?_
        refine dt' 4 rfl (by kernel_rfl) H (yfa rfl) ?_
        refine dt 5 rfl (by kernel_rfl) H (zld 0 rfl rfl hcc) ?_
        refine dt' 6 rfl (by kernel_rfl) H (ymv rfl) ?_; refine do1 7 rfl (by kernel_rfl) ?_; intro K10 hK10
        refine xc [0] H (hsz) rfl rfl rfl rfl rfl ?_; rintro _ _ w ⟨rfl, rfl⟩ H; replace H := H.ap rfl
        refine wpList_nil ?_; refine tn ?_; refine hK10 _ _ (fun _ => H) ?_; clear hK10 K10
        refine dt' 8 rfl (by kernel_rfl) H (ysbi rfl rfl (wi64 (by omega))) ?_
        refine dt' 9 rfl (by kernel_rfl) H (ygt rfl rfl) ?_; refine dd (by kernel_rfl) ?_; refine tn ?_; refine hK9 _ _ ?_; clear hK9 K9
        refine if_ rfl (fun h4 => ?_) (fun h4 => ?_)
        · have h4 : D1.cap - D1.size < bs.length := by have := of_decide_eq_true h4; omega
          refine sq ?_; intro K11 hK11; refine wp_region_lit ?_; refine xas rfl ?_; refine wpList_nil ?_; refine tn ?_; refine hK11 _ _ ?_; clear hK11 K11
          refine wp_ret ?_; refine tr ?_; clear hK8 K8
          refine hQ _ _ _ ?_; refine r1 rfl rfl H ?_
          rw [if_neg h1, if_neg h2, if_neg h3, if_pos h4]; exact ⟨rfl, rfl⟩
        · have h4 : ¬ D1.cap - D1.size < bs.length := by have := of_decide_eq_false h4; omega
          refine wp_skip ?_; refine tn ?_; refine hK8 _ _ ?_; clear hK8 K8; refine sq ?_; intro K11 hK11; refine wp_region_lit ?_; refine xmv rfl ?_; refine xmv rfl ?_
          refine xmv rfl ?_
          refine xc [0, 0] H ((c_dadd A b D1 n bs bo bc hr hok hb)) rfl rfl rfl rfl rfl ?_; rintro _ _ w ⟨rfl, rfl⟩ H; replace H := H.ap rfl
          refine wpList_nil ?_; refine tn ?_; refine hK11 _ _ ?_; clear hK11 K11; refine sq ?_; intro K12 hK12; refine wp_region_lit ?_; refine xas rfl ?_
          refine wpList_nil ?_; refine tn ?_; refine hK12 _ _ ?_; clear hK12 K12; refine wp_ret ?_
          refine hQ _ _ _ ?_; refine r1 rfl rfl H ?_
          rw [if_neg h1, if_neg h2, if_neg h3, if_neg h4]; exact ⟨rfl, rfl⟩
      · rw [hk]
        refine xpnz rfl rfl ?_
        refine xmv rfl ?_; refine jand (b := ?b1) 7 20 [21, 22, 23, 24, 25, 26] 27 rfl rfl H (fun hhc1 hc1 => ?a1) (fun hhc1 hc1 => ?o1) ?_
        case a1 =>
          refine xgy rfl rfl rfl ?_; refine xmv rfl ?_; refine xgy rfl rfl rfl ?_
          refine xnc rfl ?_
          refine xgy rfl rfl rfl ?_; refine xfa rfl ?_; refine xgy rfl rfl rfl ?_
          refine xldb 0 H rfl rfl rfl ?_
          refine xgy rfl rfl rfl ?_
          refine xlm 1 H rfl rfl ?_
          refine xgy rfl rfl rfl ?_; refine xge rfl rfl ?_; refine xpkt rfl rfl ?_; exact hc1 _ _ _ _ _ _ _ H
        case o1 =>
          refine xgn rfl rfl rfl ?_; refine xgn rfl rfl rfl ?_; refine xgn rfl rfl rfl ?_; refine xgn rfl rfl rfl ?_; refine xgn rfl rfl rfl ?_; refine xgn rfl rfl rfl ?_
          refine xpkf rfl rfl ?_; exact hc1 _ _ _ _ _ _ _ H
        intro u21 u22 u23 u24 u25 u26 w H; refine wpList_nil ?_; refine tn ?_; refine hK7 _ _ ?_; clear hK7 K7
        refine if_ rfl (fun h3 => ?_) (fun h3 => ?_)
        · have h3' : ((fget D1.files n).isNone && decide ((D1.files.length : Int) ≥ 1024)) = true := by rw [hg]; simpa [hpl] using h3
          refine sq ?_; intro K8 hK8; refine wp_region_lit ?_; refine xas rfl ?_; refine wpList_nil ?_; refine tn ?_; refine hK8 _ _ ?_; clear hK8 K8; refine wp_ret ?_
          refine tr ?_; clear hK6 K6
          replace H := St.todsk hps H
          refine hQ _ _ _ ?_; refine r1 rfl rfl H ?_
          rw [if_neg h1, if_neg h2, if_pos h3']; exact ⟨rfl, rfl⟩
        · have h3 : ¬ ((fget D1.files n).isNone && decide ((D1.files.length : Int) ≥ 1024)) = true := by rw [hg]; have := h3; simp [hpl] at this ⊢; exact this
          refine wp_skip ?_; refine tn ?_; refine hK6 _ _ ?_; clear hK6 K6; refine sq ?_; intro K8 hK8; refine sq ?_; intro K9 hK9
          replace H := St.todsk hps H
          have hcc : (dskC b D1).cell ⟨b, 1, none⟩ (.int .i64 D1.cap) := dskC_cell (fun bm => rfl)
          refine drws (m := 10) 100000 rfl rfl H ?_; clear H; intro w H; refine dt' 0 rfl (by kernel_rfl) H (ymv rfl) ?_; refine dt' 1 rfl (by kernel_rfl) H (yli rfl) ?_
          refine dt' 2 rfl (by kernel_rfl) H (ymv rfl) ?_
          refine dt' 3 rfl (by kernel_rfl) H (ync rfl) ?_
          refine dt' 4 rfl (by kernel_rfl) H (yfa rfl) ?_
          refine dt 5 rfl (by kernel_rfl) H (zld 0 rfl rfl hcc) ?_
          refine dt' 6 rfl (by kernel_rfl) H (ymv rfl) ?_; refine do1 7 rfl (by kernel_rfl) ?_; intro K10 hK10
          refine xc [0] H (hsz) rfl rfl rfl rfl rfl ?_; rintro _ _ w ⟨rfl, rfl⟩ H; replace H := H.ap rfl
          refine wpList_nil ?_; refine tn ?_; refine hK10 _ _ (fun _ => H) ?_; clear hK10 K10
          refine dt' 8 rfl (by kernel_rfl) H (ysbi rfl rfl (wi64 (by omega))) ?_
          refine dt' 9 rfl (by kernel_rfl) H (ygt rfl rfl) ?_; refine dd (by kernel_rfl) ?_; refine tn ?_; refine hK9 _ _ ?_; clear hK9 K9
          refine if_ rfl (fun h4 => ?_) (fun h4 => ?_)
          · have h4 : D1.cap - D1.size < bs.length := by have := of_decide_eq_true h4; omega
            refine sq ?_; intro K11 hK11; refine wp_region_lit ?_; refine xas rfl ?_; refine wpList_nil ?_; refine tn ?_; refine hK11 _ _ ?_; clear hK11 K11
            refine wp_ret ?_; refine tr ?_; clear hK8 K8
            refine hQ _ _ _ ?_; refine r1 rfl rfl H ?_
            rw [if_neg h1, if_neg h2, if_neg h3, if_pos h4]; exact ⟨rfl, rfl⟩
          · have h4 : ¬ D1.cap - D1.size < bs.length := by have := of_decide_eq_false h4; omega
            refine wp_skip ?_; refine tn ?_; refine hK8 _ _ ?_; clear hK8 K8; refine sq ?_; intro K11 hK11; refine wp_region_lit ?_; refine xmv rfl ?_; refine xmv rfl ?_
            refine xmv rfl ?_
            refine xc [0, 0] H ((c_dadd A b D1 n bs bo bc hr hok hb)) rfl rfl rfl rfl rfl ?_; rintro _ _ w ⟨rfl, rfl⟩ H; replace H := H.ap rfl
            refine wpList_nil ?_; refine tn ?_; refine hK11 _ _ ?_; clear hK11 K11; refine sq ?_; intro K12 hK12; refine wp_region_lit ?_; refine xas rfl ?_
            refine wpList_nil ?_; refine tn ?_; refine hK12 _ _ ?_; clear hK12 K12; refine wp_ret ?_
            refine hQ _ _ _ ?_; refine r1 rfl rfl H ?_
            rw [if_neg h1, if_neg h2, if_neg h3, if_neg h4]; exact ⟨rfl, rfl⟩
end Go.Proofs.YtegllbmkkfnajaaGreatDoor
end
section
namespace Go.Proofs.YtegllbmkkfnajaaGreatDoor
open Go Go.Proofs
attribute [local irreducible] Go.wpList Go.Code.wp St Fn mk
set_option maxRecDepth 20000
theorem names_pre {pre : List FP} {n : List UInt8} (h : ∀ q ∈ pre, q.f.name ≠ n) : ∀ q ∈ pre.map FP.f, q.name ≠ n := by
  intro q hq; obtain ⟨x, hx, rfl⟩ := List.mem_map.1 hq; exact h x hx
def syncD (D : Dsk) (n : List UInt8) : Int × Dsk :=
  if (beginD D).1 = false then (19, (beginD D).2)
  else if targetOk n = false then (7, (beginD D).2)
  else match fget (beginD D).2.files n with
    | none => (8, (beginD D).2)
    | some f => (0, { (beginD D).2 with files := fput (beginD D).2.files { f with sure := f.data.length } })
theorem c_dsync (b : Nat) (D : Dsk) (n : List UInt8) (hD : D.ok) :
    Fn Tryz.prog 44 [.pointer (some ⟨b, 0, none⟩), .string (str n)] [dskC b D] (Ret fun v L => v = .int .i64 (syncD D n).1 ∧ L = [dskC b (syncD D n).2]) := by
  have hok := beginD_ok hD
  unfold syncD
  have hbg := c_dbegin b D hD
  obtain ⟨r, hr0⟩ : ∃ r, beginD D = r := ⟨_, rfl⟩
  rw [hr0] at hok hbg ⊢
  obtain ⟨bg, D1⟩ := r
  simp only at hok hbg ⊢
  refine Fn.intro Tryz.call44 Tryz.func44 rfl Tryz.ntmps44 rfl ?_; intro g w Q hQ H
  refine sq ?_; intro K1 hK1; refine wp_region_lit ?_; refine xas rfl ?_; refine wpList_nil ?_; refine tn ?_; refine hK1 _ _ ?_; clear hK1 K1
  refine sq ?_; intro K2 hK2; refine sq ?_; intro K3 hK3; refine wp_region_lit ?_; refine xmv rfl ?_
  refine xc [0] H (hbg) rfl rfl rfl rfl rfl ?_; rintro _ _ w ⟨rfl, rfl⟩ H; replace H := H.ap rfl
  refine xnt rfl ?_; refine wpList_nil ?_; refine tn ?_; refine hK3 _ _ ?_; clear hK3 K3
  refine if_ rfl (fun h1 => ?_) (fun h1 => ?_)
  · have h1 : bg = false := by simpa using h1
    refine sq ?_; intro K4 hK4; refine wp_region_lit ?_; refine xas rfl ?_; refine wpList_nil ?_; refine tn ?_; refine hK4 _ _ ?_; clear hK4 K4; refine wp_ret ?_
    refine tr ?_; clear hK2 K2
    refine hQ _ _ _ ?_; refine r1 rfl rfl H ?_
    rw [if_pos h1]; exact ⟨rfl, rfl⟩
  · have h1 : ¬ bg = false := by simpa using h1
    refine wp_skip ?_; refine tn ?_; refine hK2 _ _ ?_; clear hK2 K2; refine sq ?_; intro K4 hK4; refine sq ?_; intro K5 hK5; refine wp_region_lit ?_
    refine xmv rfl ?_
    refine xc [] H ((c_target n)) rfl rfl rfl rfl rfl ?_; rintro _ _ w ⟨rfl, rfl⟩ H; replace H := H.ap rfl
    refine xnt rfl ?_; refine wpList_nil ?_; refine tn ?_; refine hK5 _ _ ?_; clear hK5 K5
    refine if_ rfl (fun h2 => ?_) (fun h2 => ?_)
    · have h2 : targetOk n = false := by simpa using h2
      refine sq ?_; intro K6 hK6; refine wp_region_lit ?_; refine xas rfl ?_; refine wpList_nil ?_; refine tn ?_; refine hK6 _ _ ?_; clear hK6 K6; refine wp_ret ?_
      refine tr ?_; clear hK4 K4
      refine hQ _ _ _ ?_; refine r1 rfl rfl H ?_
      rw [if_neg h1, if_pos h2]; exact ⟨rfl, rfl⟩
    · have h2 : ¬ targetOk n = false := by simpa using h2
      obtain ⟨bm, ps, hps, H⟩ := H.undsk
      refine wp_skip ?_; refine tn ?_; refine hK4 _ _ ?_; clear hK4 K4; refine sq ?_; intro K6 hK6; refine wp_region_lit ?_; refine xmv rfl ?_
      refine xnc rfl ?_
      refine xfa rfl ?_
      refine xldb 0 H rfl rfl rfl ?_
      refine xmv rfl ?_
      refine xlk 1 H rfl rfl rfl ?_
      rcases ps_look hps n with ⟨pre, p, post, hpe, hn, hpre, hk, hg⟩ | ⟨hno, hk, hg⟩
      · rw [hk]
        subst hpe
        replace H := St.unfile (St.filesPerm (List.perm_middle) (H.front' [2] rfl rfl))
        refine xas rfl ?_; refine wpList_nil ?_; refine tn ?_; refine hK6 _ _ ?_; clear hK6 K6; refine sq ?_; intro K7 hK7; refine sq ?_; intro K8 hK8
        refine wp_region_lit ?_; refine xmv rfl ?_; refine xpns rfl rfl ?_; refine wpList_nil ?_; refine tn ?_; refine hK8 _ _ ?_; clear hK8 K8; refine iff_ rfl ?_
        refine wp_skip ?_; refine tn ?_; refine hK7 _ _ ?_; clear hK7 K7; refine sq ?_; intro K9 hK9; refine wp_region_lit ?_; refine xmv rfl ?_; refine xmv rfl ?_
        refine xnc rfl ?_
        refine xfa rfl ?_
        refine xldb 0 H rfl rfl rfl ?_
        refine xli rfl ?_
        refine xnc rfl ?_
        refine xfa rfl ?_
        (refine xst 0 H rfl rfl rfl rfl rfl ?_; intro w H)
        refine wpList_nil ?_; refine tn ?_; refine hK9 _ _ ?_; clear hK9 K9; refine sq ?_; intro K10 hK10; refine wp_region_lit ?_; refine xas rfl ?_
        refine wpList_nil ?_; refine tn ?_; refine hK10 _ _ ?_; clear hK10 K10; refine wp_ret ?_
        obtain ⟨p', hp'⟩ : ∃ p' : FP, p' = { p with f := { p.f with sure := p.f.data.length } } := ⟨_, rfl⟩
        replace H : St g w (filesC (p' :: (pre ++ post)) :: _) := St.tofile (p := p') (by rw [hp']; exact H)
        replace H := St.filesPerm (List.perm_middle.symm) H
        have hkv : (pre ++ p :: post).map FP.kv = (pre ++ p' :: post).map FP.kv := by rw [hp']; simp [FP.kv]
        rw [hkv] at H
        have hfs : (pre ++ p' :: post).map FP.f = fput D1.files { p.f with sure := p.f.data.length } := by
          rw [← hps, List.map_append, List.map_cons, List.map_append, List.map_cons]
          rw [fput_at (f := p.f) (f' := { p.f with sure := p.f.data.length }) (by rw [hn]; exact names_pre hpre) rfl, hp']
        replace H := St.todsk (D := { D1 with files := fput D1.files { p.f with sure := p.f.data.length } }) hfs (H.front' [1, 1, 0] rfl rfl)
        refine hQ _ _ _ ?_; refine r1 rfl rfl H ?_
        rw [if_neg h1, if_neg h2, hg]; exact ⟨rfl, rfl⟩
      · rw [hk]
        refine xas rfl ?_; refine wpList_nil ?_; refine tn ?_; refine hK6 _ _ ?_; clear hK6 K6; refine sq ?_; intro K7 hK7; refine sq ?_; intro K8 hK8
        refine wp_region_lit ?_; refine xmv rfl ?_
        refine xpnz rfl rfl ?_
        refine wpList_nil ?_; refine tn ?_; refine hK8 _ _ ?_; clear hK8 K8; refine ift rfl ?_; refine sq ?_; intro K9 hK9; refine wp_region_lit ?_; refine xas rfl ?_
        refine wpList_nil ?_; refine tn ?_; refine hK9 _ _ ?_; clear hK9 K9; refine wp_ret ?_; refine tr ?_; clear hK7 K7
        replace H := St.todsk hps H
        refine hQ _ _ _ ?_; refine r1 rfl rfl H ?_
        rw [if_neg h1, if_neg h2, hg]; exact ⟨rfl, rfl⟩
theorem erase_mid {α : Type} : ∀ (pre : List α) (x : α) (post : List α), (pre ++ x :: post).eraseIdx pre.length = pre ++ post
  | [], _, _ => rfl
  | y :: pre, x, post => by simp [erase_mid pre x post]
theorem delK_at {pre : List FP} {p : FP} {post : List FP} {n : List UInt8} (hn : p.f.name = n) (hpre : ∀ q ∈ pre, q.f.name ≠ n) : delK ((pre ++ p :: post).map FP.kv) n = (pre ++ post).map FP.kv := by
  have hk : findK ((pre ++ p :: post).map FP.kv) n = some (pre.length, .pointer (some ⟨p.b, 0, none⟩)) := by
    rcases ps_find n (pre ++ p :: post) with ⟨pre2, p2, post2, h1, h2, h3, h4⟩ | ⟨h1, _⟩
    · have : pre2 = pre ∧ p2 :: post2 = p :: post := by
        clear h4
        induction pre generalizing pre2 with
        | nil =>
          cases pre2 with
          | nil => exact ⟨rfl, by simpa using h1.symm⟩
          | cons x l => simp only [List.nil_append, List.cons_append, List.cons.injEq] at h1; exact absurd (h1.1 ▸ hn) (h3 x (by simp))
        | cons y l ih =>
          cases pre2 with
          | nil => simp only [List.nil_append, List.cons_append, List.cons.injEq] at h1; exact absurd (h1.1 ▸ h2) (hpre y (by simp))
          | cons x l2 =>
            simp only [List.cons_append, List.cons.injEq] at h1
            have := ih (fun q hq => hpre q (by simp [hq])) l2 h1.2 (fun q hq => h3 q (by simp [hq]))
            exact ⟨by rw [h1.1, this.1], this.2⟩
      rw [h4, this.1]; simp at this; rw [this.2.1]
    · exact absurd hn (h1 p (by simp))
  unfold delK
  rw [hk, List.map_append, List.map_cons]
  have := erase_mid (pre.map FP.kv) p.kv (post.map FP.kv)
  rw [List.length_map] at this
  simp only [this, List.map_append]
def removeD (D : Dsk) (n : List UInt8) : Int × Dsk :=
  if (beginD D).1 = false then (19, (beginD D).2)
  else if targetOk n = false then (7, (beginD D).2)
  else match fget (beginD D).2.files n with
    | none => (8, (beginD D).2)
    | some _ => (0, { (beginD D).2 with files := fdel (beginD D).2.files n })
theorem c_dremove (b : Nat) (D : Dsk) (n : List UInt8) (hD : D.ok) :
    Fn Tryz.prog 47 [.pointer (some ⟨b, 0, none⟩), .string (str n)] [dskC b D] (Ret fun v L => v = .int .i64 (removeD D n).1 ∧ L = [dskC b (removeD D n).2]) := by
  have hok := beginD_ok hD
  unfold removeD
  have hbg := c_dbegin b D hD
  obtain ⟨r, hr0⟩ : ∃ r, beginD D = r := ⟨_, rfl⟩
  rw [hr0] at hok hbg ⊢
  obtain ⟨bg, D1⟩ := r
  simp only at hok hbg ⊢
  refine Fn.intro Tryz.call47 Tryz.func47 rfl Tryz.ntmps47 rfl ?_; intro g w Q hQ H
  refine sq ?_; intro K1 hK1; refine wp_region_lit ?_; refine xas rfl ?_; refine wpList_nil ?_; refine tn ?_; refine hK1 _ _ ?_; clear hK1 K1
  refine sq ?_; intro K2 hK2; refine sq ?_; intro K3 hK3; refine wp_region_lit ?_; refine xmv rfl ?_
  refine xc [0] H (hbg) rfl rfl rfl rfl rfl ?_; rintro _ _ w ⟨rfl, rfl⟩ H; replace H := H.ap rfl
  refine xnt rfl ?_; refine wpList_nil ?_; refine tn ?_; refine hK3 _ _ ?_; clear hK3 K3
  refine if_ rfl (fun h1 => ?_) (fun h1 => ?_)
  · have h1 : bg = false := by simpa using h1
    refine sq ?_; intro K4 hK4; refine wp_region_lit ?_; refine xas rfl ?_; refine wpList_nil ?_; refine tn ?_; refine hK4 _ _ ?_; clear hK4 K4; refine wp_ret ?_
    refine tr ?_; clear hK2 K2
    refine hQ _ _ _ ?_; refine r1 rfl rfl H ?_
    rw [if_pos h1]; exact ⟨rfl, rfl⟩
  · have h1 : ¬ bg = false := by simpa using h1
    refine wp_skip ?_; refine tn ?_; refine hK2 _ _ ?_; clear hK2 K2; refine sq ?_; intro K4 hK4; refine sq ?_; intro K5 hK5; refine wp_region_lit ?_
    refine xmv rfl ?_
    refine xc [] H ((c_target n)) rfl rfl rfl rfl rfl ?_; rintro _ _ w ⟨rfl, rfl⟩ H; replace H := H.ap rfl
    refine xnt rfl ?_; refine wpList_nil ?_; refine tn ?_; refine hK5 _ _ ?_; clear hK5 K5
    refine if_ rfl (fun h2 => ?_) (fun h2 => ?_)
    · have h2 : targetOk n = false := by simpa using h2
      refine sq ?_; intro K6 hK6; refine wp_region_lit ?_; refine xas rfl ?_; refine wpList_nil ?_; refine tn ?_; refine hK6 _ _ ?_; clear hK6 K6; refine wp_ret ?_
      refine tr ?_; clear hK4 K4
      refine hQ _ _ _ ?_; refine r1 rfl rfl H ?_
      rw [if_neg h1, if_pos h2]; exact ⟨rfl, rfl⟩
    · have h2 : ¬ targetOk n = false := by simpa using h2
      obtain ⟨bm, ps, hps, H⟩ := H.undsk
      refine wp_skip ?_; refine tn ?_; refine hK4 _ _ ?_; clear hK4 K4; refine sq ?_; intro K6 hK6; refine sq ?_; intro K7 hK7; refine wp_region_lit ?_
      refine xmv rfl ?_
      refine xnc rfl ?_
      refine xfa rfl ?_
      refine xldb 0 H rfl rfl rfl ?_
      refine xmv rfl ?_
      refine xlk 1 H rfl rfl rfl ?_
      rcases ps_look hps n with ⟨pre, p, post, hpe, hn, hpre, hk, hg⟩ | ⟨hno, hk, hg⟩
      · rw [hk]
        subst hpe
        refine xpns rfl rfl ?_; refine wpList_nil ?_; refine tn ?_; refine hK7 _ _ ?_; clear hK7 K7; refine iff_ rfl ?_; refine wp_skip ?_
        refine tn ?_; refine hK6 _ _ ?_; clear hK6 K6; refine sq ?_; intro K8 hK8; refine wp_region_lit ?_; refine xmv rfl ?_
        refine xnc rfl ?_
        refine xfa rfl ?_
        refine xldb 0 H rfl rfl rfl ?_
        refine xmv rfl ?_
        refine xmdl 1 H rfl rfl rfl ?_; intro w H
        rw [delK_at hn hpre] at H
        replace H := (St.unfile (St.filesPerm (List.perm_middle) (H.front' [2] rfl rfl))).drop.drop
        have hfs : (pre ++ post).map FP.f = fdel D1.files n := by
          rw [← hps, List.map_append, List.map_append, List.map_cons, ← hn, fdel_at (f := p.f) (by rw [hn]; exact names_pre hpre)]
        refine wpList_nil ?_; refine tn ?_; refine hK8 _ _ ?_; clear hK8 K8; refine sq ?_; intro K9 hK9; refine wp_region_lit ?_; refine xas rfl ?_; refine wpList_nil ?_
        refine tn ?_; refine hK9 _ _ ?_; clear hK9 K9; refine wp_ret ?_
        replace H := St.todsk (D := { D1 with files := fdel D1.files n }) hfs (H.front' [2, 1, 0] rfl rfl)
        refine hQ _ _ _ ?_; refine r1 rfl rfl H ?_
        rw [if_neg h1, if_neg h2, hg]; exact ⟨rfl, rfl⟩
      · rw [hk]
        refine xpnz rfl rfl ?_
        refine wpList_nil ?_; refine tn ?_; refine hK7 _ _ ?_; clear hK7 K7; refine ift rfl ?_; refine sq ?_; intro K8 hK8; refine wp_region_lit ?_; refine xas rfl ?_
        refine wpList_nil ?_; refine tn ?_; refine hK8 _ _ ?_; clear hK8 K8; refine wp_ret ?_; refine tr ?_; clear hK6 K6
        replace H := St.todsk hps H
        refine hQ _ _ _ ?_; refine r1 rfl rfl H ?_
        rw [if_neg h1, if_neg h2, hg]; exact ⟨rfl, rfl⟩
end Go.Proofs.YtegllbmkkfnajaaGreatDoor
end
section
namespace Go.Proofs.YtegllbmkkfnajaaGreatDoor
open Go Go.Proofs
attribute [local irreducible] Go.wpList Go.Code.wp St Fn mk
set_option maxRecDepth 20000
def renameD (D : Dsk) (n t : List UInt8) : Int × Dsk :=
  if (beginD D).1 = false then (19, (beginD D).2)
  else if (!targetOk n || !targetOk t) = true then (7, (beginD D).2)
  else match fget (beginD D).2.files n with
    | none => (8, (beginD D).2)
    | some f => (0, { (beginD D).2 with files := fput (fdel (beginD D).2.files n) { f with name := t } })
def readD (D : Dsk) (n : List UInt8) : Except Int (List UInt8) :=
  if D.down = true then .error 19 else match fget D.files n with | none => .error 8 | some f => .ok f.data
theorem c_dread (b : Nat) (D : Dsk) (n : List UInt8) (hD : D.ok) :
    Fn Tryz.prog 45 [.pointer (some ⟨b, 0, none⟩), .string (str n)] [dskC b D] (Ret (resB [dskC b D] (readD D n))) := by
  unfold readD
  refine Fn.intro Tryz.call45 Tryz.func45 rfl Tryz.ntmps45 rfl ?_; intro g w Q hQ H
  refine sq ?_; intro K1 hK1; refine wp_region_lit ?_; refine xas rfl ?_; refine xas rfl ?_; refine wpList_nil ?_; refine tn ?_; refine hK1 _ _ ?_; clear hK1 K1
  refine sq ?_; intro K2 hK2; refine sq ?_; intro K3 hK3; refine wp_region_lit ?_; refine xmv rfl ?_
  refine xc [0] H ((c_ddown b D)) rfl rfl rfl rfl rfl ?_; rintro _ _ w ⟨rfl, rfl⟩ H; replace H := H.ap rfl
  refine wpList_nil ?_; refine tn ?_; refine hK3 _ _ ?_; clear hK3 K3
  refine if_ rfl (fun h1 => ?_) (fun h1 => ?_)
  · have h1 : D.down = true := h1
    refine sq ?_; intro K4 hK4; refine wp_region_lit ?_; refine xas rfl ?_; refine xas rfl ?_; refine wpList_nil ?_; refine tn ?_; refine hK4 _ _ ?_; clear hK4 K4
    refine wp_ret ?_; refine tr ?_; clear hK2 K2
    refine hQ _ _ _ ?_; refine r2 rfl rfl rfl H ?_
    rw [if_pos h1]; exact ⟨rfl, rfl⟩
  · have h1 : ¬ D.down = true := by rw [h1]; decide
    obtain ⟨bm, ps, hps, H⟩ := H.undsk
    refine wp_skip ?_; refine tn ?_; refine hK2 _ _ ?_; clear hK2 K2; refine sq ?_; intro K4 hK4; refine wp_region_lit ?_; refine xmv rfl ?_
    refine xnc rfl ?_
    refine xfa rfl ?_
    refine xldb 0 H rfl rfl rfl ?_
    refine xmv rfl ?_
    refine xlk 1 H rfl rfl rfl ?_
    rcases ps_look hps n with ⟨pre, p, post, hpe, hn, hpre, hk, hg⟩ | ⟨hno, hk, hg⟩
    · rw [hk]
      subst hpe
      have hf := hD.file (f := p.f) (by rw [← hps]; simp)
      replace H := St.unfile (St.filesPerm (List.perm_middle) (H.front' [2] rfl rfl))
      refine xas rfl ?_; refine wpList_nil ?_; refine tn ?_; refine hK4 _ _ ?_; clear hK4 K4; refine sq ?_; intro K5 hK5; refine sq ?_; intro K6 hK6
      refine wp_region_lit ?_; refine xmv rfl ?_; refine xpns rfl rfl ?_; refine wpList_nil ?_; refine tn ?_; refine hK6 _ _ ?_; clear hK6 K6; refine iff_ rfl ?_
      refine wp_skip ?_; refine tn ?_; refine hK5 _ _ ?_; clear hK5 K5; refine sq ?_; intro K7 hK7; refine wp_region_lit ?_; refine xmv rfl ?_
      refine xnc rfl ?_
      refine xfa rfl ?_
      refine xldb 0 H rfl rfl rfl ?_
      refine xc [1] H ((c_cloneB (own p.ao p.cap 5 1 p.f.data.length (bv p.f.data)) p.ao p.cap p.f.data (H.front 1 rfl).ownRd hf.2)) rfl rfl rfl rfl rfl ?_; rintro _ _ w ⟨ao2, cap2, rfl, rfl⟩ H; replace H := H.ap rfl
      refine xas rfl ?_; refine xas rfl ?_; refine wpList_nil ?_; refine tn ?_; refine hK7 _ _ ?_; clear hK7 K7; refine wp_ret ?_
      replace H := St.tofile (H.front' [2, 1, 1] rfl rfl)
      replace H := St.filesPerm (List.perm_middle.symm) H
      replace H := St.todsk hps (H.front' [2, 2, 0] rfl rfl)
      replace H := H.front' [1, 0] rfl rfl
      refine hQ _ _ _ ?_; refine r2 rfl rfl rfl H ?_
      rw [if_neg h1, hg]; exact ⟨ao2, cap2, rfl, rfl⟩
    · rw [hk]
      refine xas rfl ?_; refine wpList_nil ?_; refine tn ?_; refine hK4 _ _ ?_; clear hK4 K4; refine sq ?_; intro K5 hK5; refine sq ?_; intro K6 hK6
      refine wp_region_lit ?_; refine xmv rfl ?_
      refine xpnz rfl rfl ?_
      refine wpList_nil ?_; refine tn ?_; refine hK6 _ _ ?_; clear hK6 K6; refine ift rfl ?_; refine sq ?_; intro K7 hK7; refine wp_region_lit ?_; refine xas rfl ?_
      refine xas rfl ?_; refine wpList_nil ?_; refine tn ?_; refine hK7 _ _ ?_; clear hK7 K7; refine wp_ret ?_; refine tr ?_; clear hK5 K5
      replace H := St.todsk hps H
      refine hQ _ _ _ ?_; refine r2 rfl rfl rfl H ?_
      rw [if_neg h1, hg]; exact ⟨rfl, rfl⟩
end Go.Proofs.YtegllbmkkfnajaaGreatDoor
end
