/- The pages that are reached from a page: the model of both walks over a book, and the reference's walk comes to it. No condition. -/
import Derived.Test.YthenmlaleobapaaPureA0
import Derived.Test.YthenmlaleobapaaAllx31
import Derived.Test.YthenmlaleobapaaAllx30
namespace Go.Proofs.Ythenmlaleobapaa.All
open Go.RowKit Go.Proofs.YthenmlaleobapaaW.PrintWords Go.Proofs.YthenmlaleobapaaW.PrintLast Go.Proofs.YthenmlaleobapaaW.PrintMore
set_option linter.unusedVariables false
set_option linter.unusedSimpArgs false

/-- Page i is there and used. -/
def pgOk (ps : List S77) (i : Int) : Prop := 0 ≤ i ∧ i < (ps.length : Int) ∧ (rd_T77 ps i).f0 = true
instance (ps : List S77) (i : Int) : Decidable (pgOk ps i) := inferInstanceAs (Decidable (_ ∧ _ ∧ _))
mutual
/-- What is reached from page i on, behind out; at most k steps deep. -/
def walkM : Nat → List S77 → Int → List Int → Option (List Int)
  | 0, _, _, _ => none
  | k + 1, ps, i, out => if pgOk ps i then (if out.length < 17592186044415 then (if i ∈ out then some out else walkL k ps (rd_T77 ps i).f1.f0 (rd_T77 ps i).f1.f1 (out ++ [i]) 0) else none) else some out
def walkL : Nat → List S77 → Bool → List S82 → List Int → Int → Option (List Int)
  | 0, _, _, _, _, _ => none
  | k + 1, ps, b, es, out, x => if x < (es.length : Int) then (if b = true then some out else if 0 ≤ x then (walkM k ps (rd_T82 es x).f0 out).bind fun o => walkL k ps b es o (wrap64 (x + 1)) else none) else some out
end
theorem walk_mono : ∀ k, (∀ ps i out, LeO (walkM k ps i out) (walkM (k + 1) ps i out)) ∧ (∀ ps b es out x, LeO (walkL k ps b es out x) (walkL (k + 1) ps b es out x))
  | 0 => ⟨fun _ _ _ r h => by simp [walkM] at h, fun _ _ _ _ _ r h => by simp [walkL] at h⟩
  | k + 1 => by
    obtain ⟨h1, h2⟩ := walk_mono k
    refine ⟨fun ps i out => ?_, fun ps b es out x => ?_⟩
    · rw [walkM, walkM]
      exact LeO.ite (LeO.ite (LeO.ite (LeO.refl _) (h2 _ _ _ _ _)) (LeO.refl _)) (LeO.refl _)
    · rw [walkL, walkL]
      exact LeO.ite (LeO.ite (LeO.refl _) (LeO.ite (LeO.bind (h1 _ _ _) (fun _ => h2 _ _ _ _ _)) (LeO.refl _))) (LeO.refl _)

/-- The reference asks whether a number is among others. -/
theorem has_f (l : List Int) (n : Int) (hl : l.length ≤ 4611686018427387904) : ∃ k, spec_l7Has.f k l n = some (decide (n ∈ l)) := by
  have key : ∀ d i, i + d = l.length → (∀ j, j < i → l.getD j 0 ≠ n) → ∃ k, spec_l7Has.l0 k l n (i : Int) = some (decide (n ∈ l)) := by
    intro d
    induction d with
    | zero =>
      intro i hi hno
      refine ⟨1, ?_⟩
      rw [spec_l7Has.l0, if_neg (by omega)]
      congr 1
      symm
      rw [decide_eq_false_iff_not]
      intro hm
      obtain ⟨j, hj, e⟩ := List.getElem_of_mem hm
      refine hno j (by omega) ?_
      rw [List.getD_eq_getElem?_getD, List.getElem?_eq_getElem hj]
      exact e
    | succ d ih =>
      intro i hi hno
      have hil : i < l.length := by omega
      have hrd : rd l (i : Int) = l.getD i 0 := rfl
      by_cases he : l.getD i 0 = n
      · refine ⟨1, ?_⟩
        rw [spec_l7Has.l0, if_pos (by omega), if_pos (by omega), hrd, if_pos he]
        congr 1
        symm
        rw [decide_eq_true_iff]
        rw [List.getD_eq_getElem?_getD, List.getElem?_eq_getElem hil] at he
        rw [← he]
        exact List.getElem_mem hil
      · obtain ⟨k, hk⟩ := ih (i + 1) (by omega) (fun j hj => by
          rcases Nat.lt_or_ge j i with h | h
          · exact hno j h
          · have : j = i := by omega
            subst this
            exact he)
        refine ⟨k + 1, ?_⟩
        have hw : wrap64 ((i : Int) + 1) = ((i + 1 : Nat) : Int) := by
          unfold wrap64
          omega
        rw [spec_l7Has.l0, if_pos (by omega), if_pos (by omega), hrd, if_neg he, hw]
        exact hk
  exact key l.length 0 (by omega) (fun j hj => absurd hj (Nat.not_lt_zero _))
theorem in_range (n : Nat) (hn : n ≤ 9223372036854775807) (i : Int) : spec_l1In.f i 0 ((n : Int) - 1) = some (decide (0 ≤ i ∧ i < (n : Int))) := by
  unfold spec_l1In.f
  by_cases h : i ≥ 0
  · rw [if_pos h]
    congr 1
    rw [decide_eq_decide]
    omega
  · rw [if_neg h]
    congr 1
    symm
    rw [decide_eq_false_iff_not]
    omega

theorem hinfoInt : (Try.prog.info? 3).map (fun i => (i.zero, i.size, i.bytes)) = some (some (.int .i64 0), 1, 8) := by kernel_rfl

theorem ow_of {u v1 : Value} {lo mid : Nat} (hlo : lo ≤ mid) (h : v1.ownBlock = u.ownBlock ∨ ∃ b, v1.ownBlock = some b ∧ mid ≤ b) : ∀ k, some k = v1.ownBlock → some k = u.ownBlock ∨ lo ≤ k := by
  intro k hk
  rcases h with h | ⟨b, hb, hlt⟩
  · exact .inl (hk.trans h)
  · rw [hb] at hk
    injection hk with hk
    rw [hk]
    exact .inr (Nat.le_trans hlo hlt)

/-- What the reference's walk leaves: the row, and all that stood is as it was but for the row that was handed over. -/
def WalkPost (w0 w : World) (v : Value) (r : List Int) (e : Ending) (w' : World) : Prop :=
  ∃ v', e = .returned v' ∧ Kd.R (Kd.int .i64) 3 w' w0.heap.size (fun _ => True) v' r ∧ Below w0.heap.size w0 w' ∧ Kept w w' (fun k => some k = v.ownBlock) ∧ (∀ k, some k = v'.ownBlock → some k = v.ownBlock ∨ w.heap.size ≤ k)
def WalkSaid (w0 : World) (A : Option Addr) (c : Nat) (ps : List S77) (k : Nat) : Prop :=
  ∀ (root i : Int) (v : Value) (xs r : List Int) (w : World), Below w0.heap.size w0 w → Kd.R (Kd.int .i64) 3 w w0.heap.size (fun _ => True) v xs → walkM k ps i xs = some r →
    Calls Try.prog 74 #[.agg #[.int .i64 root, .slice A ps.length c], .int .i64 i, v] w (WalkPost w0 w v r)

set_option maxHeartbeats 8000000 in
set_option maxRecDepth 100000 in
/-- Where page i is not there, or not used. -/
theorem walk_out (w0 : World) (A : Option Addr) (c : Nat) (ps : List S77) (hr0 : Kd.C k77 w0 A ps.length ps) (hc0 : ps.length ≤ c)
    (root i : Int) (v : Value) (xs : List Int) (w : World) (hb : Below w0.heap.size w0 w) (hv : Kd.R (Kd.int .i64) 3 w w0.heap.size (fun _ => True) v xs) (hno : ¬ pgOk ps i) :
    Calls Try.prog 74 #[.agg #[.int .i64 root, .slice A ps.length c], .int .i64 i, v] w (WalkPost w0 w v xs) := by
  have HR := Aside0.mk hr0
  have HB := Aside0.mk hb
  have HO := Aside0.mk hv
  have hmax : ps.length ≤ 9223372036854775807 := hr0.2.1
  have HIN := Aside0.mk (in_range ps.length hmax i)
  have HNO := Aside0.mk hno
  clear hr0 hc0 hb hv hno
  obtain ⟨Av, cv, ev⟩ := Kd.R_slice HO.out
  subst ev
  have hu1 := Try.underlying77
  have hu2 := Try.underlying36
  by_cases hin : 0 ≤ i ∧ i < (ps.length : Int)
  · obtain ⟨h0, h1⟩ := hin
    have hus : (rd_T77 ps i).f0 = false := by
      cases hu : (rd_T77 ps i).f0 with
      | false => rfl
      | true => exact absurd ⟨h0, h1, hu⟩ HNO.out
    rw [decide_eq_true (show 0 ≤ i ∧ i < (ps.length : Int) from ⟨h0, h1⟩)] at HIN
    obtain ⟨ad, A2, c2, e2, hx0, hx1, hx2, _, _⟩ := at_T77 (Kd.C_below HR.out HB.out) i h0 h1
    subst e2
    rw [hus] at hx0
    clear hus hx1 hx2
    go_enter Try.func74, Try.ntmps74
    go_wp2_with (first
      | ((with_reducible refine gate_dst (N := 3) rfl ?_); refine box_event ?hg (N := 3) ?hd (cs := #[.int .i64 root, .slice (some ad) ps.length c]) (t := 36) ?hr ?_; (case hd => rfl); (case hg => rfl); (case hr => first | (go_simp; done) | (go_simp; rfl)); intro g3 hg w3 hbox hb3; replace hx0 := (hb3.cell (World.block_lt_of_cell? w _ hx0)).trans hx0; have hk1 : w3.cell? ⟨g3, 1, none⟩ = some (.slice (some ad) ps.length c) := (blk_cell hbox 1).trans rfl; have HW3 := Aside0.mk hb3; clear hb3 hg hbox)
      | (go_at_call 66; refine (spec_l1In.calls _ _ _ _ _ HIN.out).mono ?_; rintro e w' ⟨rfl, ⟨⟨n, rfl⟩⟩⟩))
    go_ret
    exact ⟨_, rfl, Kd.R_below HO.out (pw_below_drewN HW3.out _), pw_below_drewN (below_step HB.out HW3.out) _, (Kept.of_below (pw_below_drewN HW3.out _) _), fun k hk => .inl hk⟩
  · rw [decide_eq_false hin] at HIN
    go_enter Try.func74, Try.ntmps74
    go_wp2_with (first
      | ((with_reducible refine gate_dst (N := 3) rfl ?_); refine box_event ?hg (N := 3) ?hd (cs := #[.int .i64 root, .slice A ps.length c]) (t := 36) ?hr ?_; (case hd => rfl); (case hg => rfl); (case hr => first | (go_simp; done) | (go_simp; rfl)); intro g3 hg w3 hbox hb3; have hk1 : w3.cell? ⟨g3, 1, none⟩ = some (.slice A ps.length c) := (blk_cell hbox 1).trans rfl; have HW3 := Aside0.mk hb3; clear hb3 hg hbox)
      | (go_at_call 66; refine (spec_l1In.calls _ _ _ _ _ HIN.out).mono ?_; rintro e w' ⟨rfl, ⟨⟨n, rfl⟩⟩⟩))
    go_ret
    exact ⟨_, rfl, Kd.R_below HO.out (pw_below_drewN HW3.out _), pw_below_drewN (below_step HB.out HW3.out) _, (Kept.of_below (pw_below_drewN HW3.out _) _), fun k hk => .inl hk⟩

set_option maxHeartbeats 8000000 in
set_option maxRecDepth 100000 in
/-- Where page i is among those that were reached. -/
theorem walk_met (w0 : World) (A : Option Addr) (c : Nat) (ps : List S77) (hr0 : Kd.C k77 w0 A ps.length ps) (hc0 : ps.length ≤ c)
    (root i : Int) (v : Value) (xs : List Int) (w : World) (hb : Below w0.heap.size w0 w) (hv : Kd.R (Kd.int .i64) 3 w w0.heap.size (fun _ => True) v xs) (hyes : pgOk ps i) (q : Nat) (hin : spec_l7Has.f q xs i = some true) :
    Calls Try.prog 74 #[.agg #[.int .i64 root, .slice A ps.length c], .int .i64 i, v] w (WalkPost w0 w v xs) := by
  have HR := Aside0.mk hr0
  have HB := Aside0.mk hb
  have HO := Aside0.mk hv
  have hmax : ps.length ≤ 9223372036854775807 := hr0.2.1
  have HIN := Aside0.mk (in_range ps.length hmax i)
  have HH := Aside0.mk hin
  clear hr0 hc0 hb hv hin
  obtain ⟨Av, cv, ev⟩ := Kd.R_slice HO.out
  subst ev
  obtain ⟨_, hvc, hvC⟩ := Kd.R_reads' HO.out
  have HVC := Aside0.mk hvC
  have HVL := Aside0.mk hvc
  clear hvC hvc
  have hu1 := Try.underlying77
  have hu2 := Try.underlying36
  obtain ⟨h0, h1, hus⟩ := hyes
  rw [decide_eq_true (show 0 ≤ i ∧ i < (ps.length : Int) from ⟨h0, h1⟩)] at HIN
  obtain ⟨ad, A2, c2, e2, hx0, hx1, hx2, _, _⟩ := at_T77 (Kd.C_below HR.out HB.out) i h0 h1
  subst e2
  rw [hus] at hx0
  clear hus hx1 hx2
  go_enter Try.func74, Try.ntmps74
  go_wp2_with (first
    | ((with_reducible refine gate_dst (N := 3) rfl ?_); refine box_event ?hg (N := 3) ?hd (cs := #[.int .i64 root, .slice (some ad) ps.length c]) (t := 36) ?hr ?_; (case hd => rfl); (case hg => rfl); (case hr => first | (go_simp; done) | (go_simp; rfl)); intro g3 hg w3 hbox hb3; replace hx0 := (hb3.cell (World.block_lt_of_cell? w _ hx0)).trans hx0; have hk1 : w3.cell? ⟨g3, 1, none⟩ = some (.slice (some ad) ps.length c) := (blk_cell hbox 1).trans rfl; have HW3 := Aside0.mk hb3; clear hb3 hg hbox)
    | (go_at_call 66; refine (spec_l1In.calls _ _ _ _ _ HIN.out).mono ?_; rintro e w' ⟨rfl, ⟨⟨n, rfl⟩⟩⟩)
    | (go_at_call 73; refine (spec_l7Has.calls q _ _ xs i true _ (Kd.C_drewN (Kd.C_below HVC.out HW3.out) _) HVL.out HH.out).mono ?_; rintro e w' ⟨rfl, ⟨⟨n2, rfl⟩⟩⟩))
  go_ret
  exact ⟨_, rfl, Kd.R_below HO.out (pw_below_drewN HW3.out _), pw_below_drewN (below_step HB.out HW3.out) _, (Kept.of_below (pw_below_drewN HW3.out _) _), fun k hk => .inl hk⟩

set_option maxHeartbeats 16000000 in
set_option maxRecDepth 100000 in
/-- Where page i is new. -/
theorem walk_new (w0 : World) (A : Option Addr) (c : Nat) (ps : List S77) (hr0 : Kd.C k77 w0 A ps.length ps) (hc0 : ps.length ≤ c) (k : Nat) (ih : ∀ k', k' ≤ k → WalkSaid w0 A c ps k')
    (root i : Int) (v : Value) (xs r : List Int) (w : World) (hb : Below w0.heap.size w0 w) (hv : Kd.R (Kd.int .i64) 3 w w0.heap.size (fun _ => True) v xs) (hyes : pgOk ps i) (q : Nat) (hin : spec_l7Has.f q xs i = some false)
    (hlen : xs.length < 17592186044415) (h : walkL k ps (rd_T77 ps i).f1.f0 (rd_T77 ps i).f1.f1 (xs ++ [i]) 0 = some r) :
    Calls Try.prog 74 #[.agg #[.int .i64 root, .slice A ps.length c], .int .i64 i, v] w (WalkPost w0 w v r) := by
  have HR := Aside0.mk hr0
  have HCC := Aside0.mk hc0
  have HB := Aside0.mk hb
  have HO := Aside0.mk hv
  have IH := Aside0.mk ih
  have HLEN := Aside0.mk hlen
  have hmax : ps.length ≤ 9223372036854775807 := hr0.2.1
  have HIN := Aside0.mk (in_range ps.length hmax i)
  have HH := Aside0.mk hin
  have H' := Aside0.mk h
  clear hr0 hc0 hb hv hin ih hlen h
  obtain ⟨Av, cv, ev⟩ := Kd.R_slice HO.out
  subst ev
  obtain ⟨_, hvc, hvC⟩ := Kd.R_reads' HO.out
  have HVC := Aside0.mk hvC
  have HVL := Aside0.mk hvc
  clear hvC hvc
  have hu1 := Try.underlying77
  have hu2 := Try.underlying36
  have hu3 := Try.underlying75
  obtain ⟨h0, h1, hus⟩ := hyes
  rw [decide_eq_true (show 0 ≤ i ∧ i < (ps.length : Int) from ⟨h0, h1⟩)] at HIN
  obtain ⟨ad, A2, c2, e2, hz0, hz1, hz2, hl2, hC2⟩ := at_T77 HR.out i h0 h1
  subst e2
  rw [hus] at hz0
  clear hus
  have HC2 := Aside0.mk hC2
  have HL2 := Aside0.mk hl2
  have HZ0 := Aside0.mk hz0
  have HZ1 := Aside0.mk hz1
  have HZ2 := Aside0.mk hz2
  have hx0 := (HB.out.cell (World.block_lt_of_cell? w0 _ hz0)).trans hz0
  clear hC2 hl2 hz0 hz1 hz2
  obtain ⟨bl, hbl⟩ : ∃ b : Bool, b = (rd_T77 ps i).f1.f0 := ⟨_, rfl⟩
  obtain ⟨es, hes⟩ : ∃ l : List S82, l = (rd_T77 ps i).f1.f1 := ⟨_, rfl⟩
  rw [← hbl] at HZ1 H'
  rw [← hes] at HZ2 H' HC2 HL2
  clear hbl hes
  go_enter Try.func74, Try.ntmps74
  go_wp2_with (first
    | ((with_reducible refine gate_dst (N := 3) rfl ?_); refine box_event ?hg (N := 3) ?hd (cs := #[.int .i64 root, .slice (some ad) ps.length c]) (t := 36) ?hr ?_; (case hd => rfl); (case hg => rfl); (case hr => first | (go_simp; done) | (go_simp; rfl)); intro g3 hg w3 hbox hb3; replace hx0 := (hb3.cell (World.block_lt_of_cell? w _ hx0)).trans hx0; have hk1 : w3.cell? ⟨g3, 1, none⟩ = some (.slice (some ad) ps.length c) := (blk_cell hbox 1).trans rfl; have HW3 := Aside0.mk hb3; have BK3 := Aside0.mk hbox; have GW3 := Aside0.mk (by rw [hg]; exact Nat.le_refl _ : w.heap.size ≤ g3); clear hb3 hg hbox)
    | (go_at_call 66; refine (spec_l1In.calls _ _ _ _ _ HIN.out).mono ?_; rintro e w' ⟨rfl, ⟨⟨n, rfl⟩⟩⟩)
    | (go_at_call 73; refine (spec_l7Has.calls q _ _ xs i false _ (Kd.C_drewN (Kd.C_below HVC.out HW3.out) _) HVL.out HH.out).mono ?_; rintro e w' ⟨rfl, ⟨⟨n2, rfl⟩⟩⟩)
    | ((with_reducible refine gate_builtin (b := .append) (xs := #[.tmp 31, .tmp 33]) rfl ?_); at_builtin; refine Kd.R_append (Kd.int .i64) (w0 := w0) w0.heap.size rfl (.tmp 31) (.tmp 33) 54 3 (.int .i64 0) 8 rfl Try.underlying54 hinfoInt rfl (by decide) (by omega) (.slice Av xs.length cv) xs i [.int .i64 i] (fun _ => True) (fun _ => False) rfl rfl rfl (fun _ hk => hk.elim) (fun _ _ => trivial) (Kd.R_below HO.out (pw_below_drewN HW3.out _)) (pw_below_drewN (below_step HB.out HW3.out) _) (Nat.le_trans HB.out.size HW3.out.size) (by have := HLEN.out; omega) ?_; intro v5 w5 ho5 hb5 hg5 hat5; have HO5 := Aside0.mk ho5; have HB5 := Aside0.mk hb5; have BK5 := Aside0.mk (blk_grown (blk_drewN BK3.out _) hg5 (fun e => by have := Kd.R_lt HO.out g3 e.symm; have := GW3.out; omega)); have KP5 := Aside0.mk (Kept.of_grown hg5 (Kept.of_below (pw_below_drewN HW3.out _) (fun k => some k = (Value.slice Av xs.length cv).ownBlock)) (fun _ hk => .inl hk.symm)); have OW5 := Aside0.mk (ow_of (Nat.le_trans HW3.out.size (Nat.le_refl _)) hat5); replace hx0 := (hb5.cell (World.block_lt_of_cell? w0 _ HZ0.out)).trans HZ0.out; have hx1 := (hb5.cell (World.block_lt_of_cell? w0 _ HZ1.out)).trans HZ1.out; have hx2 := (hb5.cell (World.block_lt_of_cell? w0 _ HZ2.out)).trans HZ2.out; replace hk1 : w5.cell? ⟨g3, 1, none⟩ = some (.slice (some ad) ps.length c) := (blk_cell BK5.out 1).trans rfl; clear ho5 hb5 hg5 hat5 BK3)
    | ((with_reducible refine gate_dst (N := 7) rfl ?_); refine box_event ?hg (N := 7) ?hd (cs := #[.bool false, .slice none 0 0]) (t := 75) ?hr ?_; (case hd => rfl); (case hg => rfl); (case hr => first | (go_simp; done) | (go_simp; rfl)); intro g7 hg w7 hbox hb7; replace hx0 := (hb7.cell (World.block_lt_of_cell? _ _ hx0)).trans hx0; replace hx1 := (hb7.cell (World.block_lt_of_cell? _ _ hx1)).trans hx1; replace hx2 := (hb7.cell (World.block_lt_of_cell? _ _ hx2)).trans hx2; have hs0 : w7.cell? ⟨g7, 0, none⟩ = some (.bool false) := (blk_cell hbox 0).trans rfl; have hs1 : w7.cell? ⟨g7, 1, none⟩ = some (.slice none 0 0) := (blk_cell hbox 1).trans rfl; have hf0 := blk_frozen hbox 0; have hf1 := blk_frozen hbox 1; have HW7 := Aside0.mk hb7; have BK7 := Aside0.mk hbox; have GW7 := Aside0.mk hg; clear hb7 hg hbox)
    | ((with_reducible refine gate_store (t := 75) (p := 7) rfl ?_); refine store_event (t := 75) (p := 7) (v := ?vo8) (w1 := ((w7.setCell ⟨g7, 0, none⟩ (.bool bl)).setCell ⟨g7, 1, none⟩ (.slice A2 es.length c2))) ?hg ?ho ?hn ?hr ?_; (case ho => rfl); (case hg => rfl); (case hn => rfl); (case hr => first | (go_simp; done) | (go_simp; rfl)); intro w8 hw; have hb8 : Below w5.heap.size w5 w8 := by rw [hw]; exact below_set (below_set HW7.out (Nat.le_of_eq GW7.out.symm)) (Nat.le_of_eq GW7.out.symm)
       have n0_ := Aside0.mk (Kd.R_below HO5.out hb8)
       have n1_ := Aside0.mk (blk_below BK5.out hb8)
       have n2_ := Aside0.mk (show w8.heap[g7]? = some (.cells #[.bool bl, .slice A2 es.length c2] 75 (0, 0)) from by rw [hw]; exact blk_put (blk_put BK7.out 0 _ rfl) 1 _ rfl)
       have n3_ := Aside0.mk (below_step HB5.out hb8)
       have n4_ := Aside0.mk (Kept.below KP5.out hb8)
       clear HO5 BK5 BK7 HB5 KP5 hw hb8 HW7 GW7 hx0 hx1 hx2 hs0 hs1 hf0 hf1 hk1
       have HO := n0_
       have BK3 := n1_
       have BK7 := n2_
       have HBW := n3_
       have KP := n4_
       clear n0_ n1_ n2_ n3_ n4_))
  go_loopg [2, 8] k (fun kq v2 v8 w' => ∃ (o : List Int) (x : Int), v8 = .int .i64 x ∧ Aside0 (walkL kq ps bl es o x = some r) ∧ Aside0 (kq ≤ k) ∧ Aside0 (Kd.R (Kd.int .i64) 3 w' w0.heap.size (fun _ => True) v2 o) ∧ Aside0 (w'.heap[g3]? = some (.cells #[.int .i64 root, .slice (some ad) ps.length c] 36 (0, 0))) ∧ Aside0 (w'.heap[g7]? = some (.cells #[.bool bl, .slice A2 es.length c2] 75 (0, 0))) ∧ Aside0 (Below w0.heap.size w0 w') ∧ Aside0 (Kept w w' (fun k => some k = (Value.slice Av xs.length cv).ownBlock)) ∧ Aside0 (∀ k, some k = v2.ownBlock → some k = (Value.slice Av xs.length cv).ownBlock ∨ w.heap.size ≤ k))
  case atStart => exact ⟨xs ++ [i], 0, rfl, H', ⟨Nat.le_refl _⟩, HO, BK3, BK7, HBW, KP, OW5⟩
  case round =>
    clear H' HO BK3 BK7 HBW KP OW5
    obtain ⟨o, x, rfl, HA, HK1, HO, BK3, BK7, HBW, KP, OW⟩ := hrel
    cases gk with
    | zero => exact absurd HA.out (by simp [walkL])
    | succ k1 =>
      have H := HA.out
      clear HA
      rw [walkL] at H
      have hk0 : wr.cell? ⟨g7, 0, none⟩ = some (.bool bl) := (blk_cell BK7.out 0).trans rfl
      have hk1 : wr.cell? ⟨g7, 1, none⟩ = some (.slice A2 es.length c2) := (blk_cell BK7.out 1).trans rfl
      obtain ⟨Ao, co, eo⟩ := Kd.R_slice HO.out
      subst eo
      by_cases c1 : x < (es.length : Int)
      · rw [if_pos c1] at H
        have c1b : decide (x < (es.length : Int)) = true := decide_eq_true c1
        cases bl with
        | true =>
          rw [if_pos rfl] at H
          obtain rfl := Option.some.inj H
          go_wp2
          go_ret
          exact ⟨_, rfl, HO.out, HBW.out, KP.out, OW.out⟩
        | false =>
          rw [if_neg (by decide)] at H
          by_cases c2b : 0 ≤ x
          · rw [if_pos c2b] at H
            obtain ⟨o2, h2, H⟩ := Option.bind_eq_some_iff.mp H
            have H2 := Aside0.mk h2
            have H' := Aside0.mk H
            clear H h2
            try go_wp2
            obtain ⟨ad2, e2, hy0, -, -, -, -⟩ := at_T82 HC2.out x c2b c1
            subst e2
            have HY0 := Aside0.mk hy0
            replace hy0 := (HBW.out.cell (World.block_lt_of_cell? w0 _ hy0)).trans hy0
            have p290 := eq_true c1
            have q290 := eq_true c2b
            refine start_ (n := 10) (S := fun w' => w'.cell? ⟨g3, 0, none⟩ = some (.int .i64 root) ∧ w'.cell? ⟨g3, 1, none⟩ = some (.slice (some ad) ps.length c) ∧ w'.cell? ⟨g7, 1, none⟩ = some (.slice (some ad2) es.length c2) ∧ w'.cell? (ad2.add (x.toNat * 5)) = some (.int .i64 (rd_T82 es x).f0)) (ds := []) #[false, false, false, false, false, false, false, false, false, false] (by kernel_rfl) rfl rfl ⟨(blk_cell BK3.out 0).trans rfl, (blk_cell BK3.out 1).trans rfl, (blk_cell BK7.out 1).trans rfl, hy0⟩ (fun hHeld => ?_)
            have n0_ := Aside0.mk (Kd.R_drew HO.out)
            have n1_ := Aside0.mk (blk_drew BK3.out)
            have n2_ := Aside0.mk (blk_drew BK7.out)
            have n3_ := Aside0.mk (below_drew1 HBW.out)
            have n4_ := Aside0.mk (KP.out.drew)
            clear HO BK3 BK7 HBW KP hk0 hk1 hy0
            generalize wr.drew = w15 at n0_ n1_ n2_ n3_ n4_ hHeld ⊢
            refine pure_ (i := 1) (N := some 54) (v := ?_) (a' := ?_) #[false, true, false, false, false, false, false, false, false, false] rfl rfl (by kernel_rfl) (fun _ _ _ h => h) (Or.inl ⟨by rfl, ?_⟩) ?_ ?_
            rotate_left
            · intro w'
              go_simp
              with_reducible rfl
            rotate_left
            · simp only [Act.put, List.setIfInBounds_toArray, List.set_cons_zero, List.set_cons_succ, i64_w, i32_w]
              rfl
            refine pure_ (i := 3) (N := some 56) (v := ?_) (a' := ?_) #[false, true, false, true, false, false, false, false, false, false] rfl rfl (by kernel_rfl) (fun _ _ _ h => h) (Or.inl ⟨by rfl, ?_⟩) ?_ ?_
            rotate_left
            · intro w'
              go_simp
              with_reducible rfl
            rotate_left
            · simp only [Act.put, List.setIfInBounds_toArray, List.set_cons_zero, List.set_cons_succ, i64_w, i32_w]
              rfl
            refine pure_ (i := 7) (N := some 60) (v := ?_) (a' := ?_) #[false, true, false, true, false, false, false, true, false, false] rfl rfl (by kernel_rfl) (fun _ _ _ h => h) (Or.inl ⟨by rfl, ?_⟩) ?_ ?_
            rotate_left
            · intro w'
              go_simp
              with_reducible rfl
            rotate_left
            · simp only [Act.put, List.setIfInBounds_toArray, List.set_cons_zero, List.set_cons_succ, i64_w, i32_w]
              rfl
            refine take_ (i := 0) (N := some 53) (v := ?_) (a' := ?_) #[true, true, false, true, false, false, false, true, false, false] rfl rfl (by kernel_rfl) (fun _ _ _ h => h) (Or.inl ⟨by rfl, ?_⟩) hHeld ?_ ?_
            rotate_left
            · rintro w' ⟨s0, s1, s2, s3⟩
              go_simp
              with_reducible rfl
            rotate_left
            · simp only [Act.put, List.setIfInBounds_toArray, List.set_cons_zero, List.set_cons_succ, i64_w, i32_w]
              rfl
            refine take_ (i := 2) (N := some 55) (v := ?_) (a' := ?_) #[true, true, true, true, false, false, false, true, false, false] rfl rfl (by kernel_rfl) (fun _ _ _ h => h) (Or.inl ⟨by rfl, ?_⟩) hHeld ?_ ?_
            rotate_left
            · rintro w' ⟨s0, s1, s2, s3⟩
              go_simp
              with_reducible rfl
            rotate_left
            · simp only [Act.put, List.setIfInBounds_toArray, List.set_cons_zero, List.set_cons_succ, i64_w, i32_w]
              rfl
            refine pure_ (i := 4) (N := some 57) (v := ?_) (a' := ?_) #[true, true, true, true, true, false, false, true, false, false] rfl rfl (by kernel_rfl) (fun _ _ _ h => h) (Or.inl ⟨by rfl, ?_⟩) ?_ ?_
            rotate_left
            · intro w'
              go_simp
              with_reducible rfl
            rotate_left
            · simp only [Act.put, List.setIfInBounds_toArray, List.set_cons_zero, List.set_cons_succ, i64_w, i32_w]
              rfl
            refine pure_ (i := 5) (N := some 58) (v := ?_) (a' := ?_) #[true, true, true, true, true, true, false, true, false, false] rfl rfl (by kernel_rfl) (fun _ _ _ h => h) (Or.inl ⟨by rfl, ?_⟩) ?_ ?_
            rotate_left
            · intro w'
              go_simp
              with_reducible rfl
            rotate_left
            · simp only [Act.put, List.setIfInBounds_toArray, List.set_cons_zero, List.set_cons_succ, i64_w, i32_w]
              rfl
            refine take_ (i := 6) (N := some 59) (v := ?_) (a' := ?_) #[true, true, true, true, true, true, true, true, false, false] rfl rfl (by kernel_rfl) (fun _ _ _ h => h) (Or.inl ⟨by rfl, ?_⟩) hHeld ?_ ?_
            rotate_left
            · rintro w' ⟨s0, s1, s2, s3⟩
              go_simp
              with_reducible rfl
            rotate_left
            · simp only [Act.put, List.setIfInBounds_toArray, List.set_cons_zero, List.set_cons_succ, i64_w, i32_w]
              rfl
            refine one_ (i := 8) (N := some 61) #[true, true, true, true, true, true, true, true, true, false] rfl rfl (by kernel_rfl) (by decide) (fun K hK => ?_)
            refine call_ 74 #[.agg #[.int .i64 root, .slice (some ad) ps.length c], .int .i64 (rd_T82 es x).f0, .slice Ao o.length co] (by rfl) rfl (by first | (go_simp; done) | (go_simp; rfl)) ?_
            refine (IH.out k1 (by have := HK1.out; omega) root _ _ o o2 _ n3_.out n0_.out H2.out).mono ?_
            rintro e w16 ⟨v16, rfl, ho, hb, hk, hw⟩
            refine ⟨v16, rfl, ?_⟩
            have BK3 := Aside0.mk ((hk.2 _ (blk_lt n1_.out) (fun e => Kd.R_ne n0_.out n1_.out (by decide) e)).trans n1_.out)
            have BK7 := Aside0.mk ((hk.2 _ (blk_lt n2_.out) (fun e => Kd.R_ne n0_.out n2_.out (by decide) e)).trans n2_.out)
            have KP := Aside0.mk (Kept.then_ n4_.out hk (fun k e => OW.out k e))
            have OW2 := Aside0.mk (show ∀ k, some k = v16.ownBlock → some k = (Value.slice Av xs.length cv).ownBlock ∨ w.heap.size ≤ k from fun k e => (hw k e).elim (fun h => OW.out k h) (fun h => .inr (Nat.le_trans n4_.out.1 h)))
            have HO := Aside0.mk ho
            have HBW := Aside0.mk hb
            have hy0 := hHeld.2.2.2
            clear n0_ n1_ n2_ n3_ n4_ ho hb hk hw OW
            refine hK.out _ _ ⟨(blk_cell BK3.out 0).trans rfl, (blk_cell BK3.out 1).trans rfl, (blk_cell BK7.out 1).trans rfl, (HBW.out.cell (World.block_lt_of_cell? w0 _ HY0.out)).trans HY0.out⟩ (fun hHeld => ?_)
            refine norm_ (a' := ?_) ?_ ?_
            rotate_left
            · simp only [Act.put, List.setIfInBounds_toArray, List.set_cons_zero, List.set_cons_succ, i64_w, i32_w]
              rfl
            refine pure_ (i := 9) (N := some 2) (v := ?_) (a' := ?_) #[true, true, true, true, true, true, true, true, true, true] rfl rfl (by kernel_rfl) (fun _ _ _ h => h) (Or.inl ⟨by rfl, ?_⟩) ?_ ?_
            rotate_left
            · intro w'
              go_simp
              with_reducible rfl
            rotate_left
            · simp only [Act.put, List.setIfInBounds_toArray, List.set_cons_zero, List.set_cons_succ, i64_w, i32_w]
              rfl
            refine done_ (by kernel_rfl) ?_
            go_wp2
            go_roundg k1
            case measure => have := HK1.out; omega
            case rel => exact ⟨o2, wrap64 (x + 1), rfl, H', ⟨by have := HK1.out; omega⟩, HO, BK3, BK7, HBW, KP, OW2⟩
          · rw [if_neg c2b] at H
            exact absurd H (by simp)
      · rw [if_neg c1] at H
        have c1b : decide (x < (es.length : Int)) = false := decide_eq_false c1
        obtain rfl := Option.some.inj H
        go_wp2
        go_ret
        exact ⟨_, rfl, HO.out, HBW.out, KP.out, OW.out⟩

theorem spec_walk (w0 : World) (A : Option Addr) (c : Nat) (ps : List S77) (hr0 : Kd.C k77 w0 A ps.length ps) (hc0 : ps.length ≤ c) : ∀ k k', k' ≤ k → WalkSaid w0 A c ps k'
  | 0, k', hk => by
    obtain rfl : k' = 0 := by omega
    intro root i v xs r w _ _ h
    simp [walkM] at h
  | k + 1, k', hk => by
    rcases Nat.lt_or_ge k' (k + 1) with hlt | hge
    · exact spec_walk w0 A c ps hr0 hc0 k k' (by omega)
    obtain rfl : k' = k + 1 := by omega
    intro root i v xs r w hb hv h
    rw [walkM] at h
    by_cases h1 : pgOk ps i
    · rw [if_pos h1] at h
      by_cases h3 : xs.length < 17592186044415
      · rw [if_pos h3] at h
        obtain ⟨q, hq⟩ := has_f xs i (by omega)
        by_cases h2 : i ∈ xs
        · rw [if_pos h2] at h
          obtain rfl := Option.some.inj h
          rw [decide_eq_true h2] at hq
          exact walk_met w0 A c ps hr0 hc0 root i v xs w hb hv h1 q hq
        · rw [if_neg h2] at h
          rw [decide_eq_false h2] at hq
          exact walk_new w0 A c ps hr0 hc0 k (fun k' hk' => spec_walk w0 A c ps hr0 hc0 k k' hk') root i v xs r w hb hv h1 q hq h3 h
      · rw [if_neg h3] at h
        exact absurd h (by simp)
    · rw [if_neg h1] at h
      obtain rfl := Option.some.inj h
      exact walk_out w0 A c ps hr0 hc0 root i v xs w hb hv h1

/-- The reference's Reach. -/
def spec_Reach.f (k : Nat) (a0_0 : Int) (l0_1 : List S77) : Option (List Int) := walkM k l0_1 a0_0 []
theorem spec_Reach.mono : ∀ a0 a1 k, LeO (spec_Reach.f k a0 a1) (spec_Reach.f (k + 1) a0 a1) := fun a0 a1 k => (walk_mono k).1 _ _ _
set_option maxHeartbeats 8000000 in
set_option maxRecDepth 100000 in
theorem spec_Reach.calls (k : Nat) (a0_0 : Int) (A0_1 : Option Addr) (c0_1 : Nat) (l0_1 : List (S77)) (r : List Int) (w : World) (hr0_1 : Kd.C k77 w A0_1 l0_1.length l0_1) (hc0_1 : l0_1.length ≤ c0_1) (h : spec_Reach.f k a0_0 l0_1 = some r) :
    Calls Try.prog 44 #[.agg #[.int .i64 a0_0, .slice A0_1 l0_1.length c0_1]] w fun e w' => ∃ v0_ : Value, e = .returned (v0_) ∧ Kd.R (Kd.int .i64) 3 w' w.heap.size (fun _ => True) v0_ r ∧ Below w.heap.size w w' := by
  have HS := Aside0.mk (spec_walk w A0_1 c0_1 l0_1 hr0_1 hc0_1 k k (Nat.le_refl _))
  have H' := Aside0.mk h
  clear hr0_1 hc0_1 h
  have hu2 := Try.underlying36
  go_enter Try.func44, Try.ntmps44
  go_wp2_with (first
    | ((with_reducible refine gate_dst (N := 1) rfl ?_); refine box_event ?hg (N := 1) ?hd (cs := #[.int .i64 a0_0, .slice A0_1 l0_1.length c0_1]) (t := 36) ?hr ?_; (case hd => rfl); (case hg => rfl); (case hr => first | (go_simp; done) | (go_simp; rfl)); intro g1 hg w1 hbox hb1; have hk0 : w1.cell? ⟨g1, 0, none⟩ = some (.int .i64 a0_0) := (blk_cell hbox 0).trans rfl; have hk1 : w1.cell? ⟨g1, 1, none⟩ = some (.slice A0_1 l0_1.length c0_1) := (blk_cell hbox 1).trans rfl; have HW1 := Aside0.mk hb1; clear hb1 hg hbox)
    | ((with_reducible refine gate_dst (N := 6) rfl ?_); refine Kd.R_lit (Kd.int .i64) _ 3 ?hg (N := 6) ?hd (xs := ([] : List Int)) (inner := []) (ok := fun _ => True) (okp := fun _ => True) ?hr ?hp (fun _ hk => hk) trivial (Below.refl _ _) (Nat.le_refl _) (by simp) ?_; (case hd => rfl); (case hg => rfl); (case hr => first | (go_simp; done) | (go_simp; rfl)); (case hp => exact (Reps.none _ _)); intro v6 w6 ho6 hb6 hg6 hn6; have HO6 := Aside0.mk ho6; have HB6 := Aside0.mk hb6; clear ho6 hb6 hg6 hn6)
    | (go_at_call 74; refine (HS.out a0_0 a0_0 _ [] r _ (below_step HW1.out HB6.out) (Kd.R_lower HO6.out HW1.out.size) H'.out).mono ?_; rintro e w7 ⟨v7, rfl, ho, hb, -, -⟩))
  go_ret
  exact ⟨_, rfl, ho, hb⟩

end Go.Proofs.Ythenmlaleobapaa.All
