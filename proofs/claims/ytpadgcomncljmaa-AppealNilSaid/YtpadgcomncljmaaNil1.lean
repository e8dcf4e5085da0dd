/- What a nil court and the zero court return: the law AppealNil is true for every act, car and minute, and leaves its arguments as they read. No condition. -/
import Derived.Test.YtpadgcomncljmaaRows
import Derived.ProofKit
import Derived.OpenShut
import Derived.Test.YtpadgcomncljmaaZ5
set_option linter.all false
namespace Go.Proofs.Ytpadgcomncljmaa.A
open Go.RowKit
set_option maxHeartbeats 1000000 in
set_option maxRecDepth 100000 in
theorem state_none (p : Option Addr) (num min : Int) (w : World) (hr : Calls Try.prog 61 #[.pointer p] w fun r w' => r = .returned (.bool false) ∧ w = w') :
    Calls Try.prog 31 #[.pointer p, .int .i64 num, .int .i64 min] w fun e w' => e = .returned (.tuple #[.int .i64 0, .int .i64 1]) ∧ w = w' := by
  have HR := Aside.mk hr
  clear hr
  go_enter Try.func31, Try.ntmps31
  refine wp_abs (n := 48) (ds := []) (l := [(0, .pointer p), (1, .int .i64 num), (2, .int .i64 min)]) ?_ ?_
  · refine (((Has.nil ?_ ?_).cons ?_).cons ?_).cons ?_
    all_goals first | rfl | (simp [Act.eval]; done)
  intro _ hf
  refine wp_seq_k ?_
  intro _ _
  refine wp_region_lit ?_
  refine a_assign hf rfl rfl rfl ?_; clear hf; intro _ hf
  refine a_assign hf rfl rfl rfl ?_; clear hf; intro _ hf
  refine wpList_nil ?_
  simp only [Exit.then, Exit.inBlock]
  go_step
  refine wp_seq_k ?_
  intro _ _
  refine wp_seq_k ?_
  intro _ _
  refine wp_region_lit ?_
  refine a_move hf rfl rfl rfl ?_; clear hf; intro _ hf
  refine a_call1 hf e61 rfl rfl rfl ?_; clear hf; refine HR.out.mono ?_; rintro _ w1 ⟨rfl, rfl⟩; intro _ hf
  refine a_not_ hf rfl rfl rfl ?_; clear hf; intro _ hf
  refine wpList_nil ?_
  simp only [Exit.then, Exit.inBlock]
  go_step
  refine c_condT hf rfl ?_
  refine wp_seq_k ?_
  intro _ _
  refine wp_region_lit ?_
  refine a_assign hf rfl rfl rfl ?_; clear hf; intro _ hf
  refine a_assign hf rfl rfl rfl ?_; clear hf; intro _ hf
  refine wpList_nil ?_
  simp only [Exit.then, Exit.inBlock]
  go_step
  refine wp_ret ?_
  simp only [Exit.then]
  exact c_ret2 hf rfl rfl rfl ⟨rfl, rfl⟩
set_option maxHeartbeats 1000000 in
set_option maxRecDepth 100000 in
theorem state_out (p : Option Addr) (num min : Int) (w : World) (hr : Calls Try.prog 61 #[.pointer p] w fun r w' => r = .returned (.bool true) ∧ w = w') (hm : inB min 0 10000000 = false) :
    Calls Try.prog 31 #[.pointer p, .int .i64 num, .int .i64 min] w fun e w' => e = .returned (.tuple #[.int .i64 0, .int .i64 2]) ∧ w = w' := by
  have HR := Aside.mk hr
  clear hr
  go_enter Try.func31, Try.ntmps31
  refine wp_abs (n := 48) (ds := []) (l := [(0, .pointer p), (1, .int .i64 num), (2, .int .i64 min)]) ?_ ?_
  · refine (((Has.nil ?_ ?_).cons ?_).cons ?_).cons ?_
    all_goals first | rfl | (simp [Act.eval]; done)
  intro _ hf
  refine wp_seq_k ?_
  intro _ _
  refine wp_region_lit ?_
  refine a_assign hf rfl rfl rfl ?_; clear hf; intro _ hf
  refine a_assign hf rfl rfl rfl ?_; clear hf; intro _ hf
  refine wpList_nil ?_
  simp only [Exit.then, Exit.inBlock]
  go_step
  refine wp_seq_k ?_
  intro _ _
  refine wp_seq_k ?_
  intro _ _
  refine wp_region_lit ?_
  refine a_move hf rfl rfl rfl ?_; clear hf; intro _ hf
  refine a_call1 hf e61 rfl rfl rfl ?_; clear hf; refine HR.out.mono ?_; rintro _ w1 ⟨rfl, rfl⟩; intro _ hf
  refine a_not_ hf rfl rfl rfl ?_; clear hf; intro _ hf
  refine wpList_nil ?_
  simp only [Exit.then, Exit.inBlock]
  go_step
  refine c_condF hf rfl ?_
  refine wp_skip ?_
  simp only [Exit.then, Exit.inBlock]
  go_step
  refine wp_seq_k ?_
  intro _ _
  refine wp_seq_k ?_
  intro _ _
  refine wp_region_lit ?_
  refine a_move hf rfl rfl rfl ?_; clear hf; intro _ hf
  refine a_call3 hf e52 rfl rfl rfl rfl rfl ?_; clear hf; refine (within_as min 0 10000000 false hm _).mono ?_; rintro _ w1 ⟨rfl, rfl⟩; intro _ hf
  refine a_not_ hf rfl rfl rfl ?_; clear hf; intro _ hf
  refine wpList_nil ?_
  simp only [Exit.then, Exit.inBlock]
  go_step
  refine c_condT hf rfl ?_
  refine wp_seq_k ?_
  intro _ _
  refine wp_region_lit ?_
  refine a_assign hf rfl rfl rfl ?_; clear hf; intro _ hf
  refine a_assign hf rfl rfl rfl ?_; clear hf; intro _ hf
  refine wpList_nil ?_
  simp only [Exit.then, Exit.inBlock]
  go_step
  refine wp_ret ?_
  simp only [Exit.then]
  exact c_ret2 hf rfl rfl rfl ⟨rfl, rfl⟩
set_option maxHeartbeats 1000000 in
set_option maxRecDepth 100000 in
theorem grounds_no (p : Option Addr) (car min ec : Int) (w : World) (hec : ec ≠ 0) (hr : Calls Try.prog 74 #[.pointer p, .int .i64 car, .int .i64 min] w fun r w' => r = .returned (.int .i64 ec) ∧ w = w') :
    Calls Try.prog 49 #[.pointer p, .int .i64 car, .int .i64 min] w fun e w' => e = .returned (.tuple #[.slice none 0 0, .int .i64 ec]) ∧ w = w' := by
  have HR := Aside.mk hr
  clear hr
  go_enter Try.func49, Try.ntmps49
  refine wp_abs (n := 87) (ds := []) (l := [(0, .pointer p), (1, .int .i64 car), (2, .int .i64 min)]) ?_ ?_
  · refine (((Has.nil ?_ ?_).cons ?_).cons ?_).cons ?_
    all_goals first | rfl | (simp [Act.eval]; done)
  intro _ hf
  refine wp_seq_k ?_
  intro _ _
  refine wp_region_lit ?_
  refine a_assign hf rfl rfl rfl ?_; clear hf; intro _ hf
  refine a_assign hf rfl rfl rfl ?_; clear hf; intro _ hf
  refine wpList_nil ?_
  simp only [Exit.then, Exit.inBlock]
  go_step
  refine wp_seq_k ?_
  intro _ _
  refine wp_seq_k ?_
  intro _ _
  refine wp_region_lit ?_
  refine a_move hf rfl rfl rfl ?_; clear hf; intro _ hf
  refine a_move hf rfl rfl rfl ?_; clear hf; intro _ hf
  refine a_move hf rfl rfl rfl ?_; clear hf; intro _ hf
  refine a_call3 hf e74 rfl rfl rfl rfl rfl ?_; clear hf; refine HR.out.mono ?_; rintro _ w1 ⟨rfl, rfl⟩; intro _ hf
  refine a_assign hf rfl rfl rfl ?_; clear hf; intro _ hf
  refine wpList_nil ?_
  simp only [Exit.then, Exit.inBlock]
  go_step
  refine wp_seq_k ?_
  intro _ _
  refine wp_region_lit ?_
  refine a_move hf rfl rfl rfl ?_; clear hf; intro _ hf
  refine a_cmp (b := true) hf rfl rfl rfl rfl rfl (by first | assumption | ((try dsimp only); simp only [decide_eq_true_eq, decide_eq_false_iff_not, beq_iff_eq, bne_iff_ne, beq_eq_false_iff_ne, bne_eq_false_iff_eq, ne_eq] <;> omega)) rfl ?_; clear hf; intro _ hf
  refine wpList_nil ?_
  simp only [Exit.then, Exit.inBlock]
  go_step
  refine c_condT hf rfl ?_
  refine wp_seq_k ?_
  intro _ _
  refine wp_region_lit ?_
  refine a_move hf rfl rfl rfl ?_; clear hf; intro _ hf
  refine a_assign hf rfl rfl rfl ?_; clear hf; intro _ hf
  refine a_assign hf rfl rfl rfl ?_; clear hf; intro _ hf
  refine wpList_nil ?_
  simp only [Exit.then, Exit.inBlock]
  go_step
  refine wp_ret ?_
  simp only [Exit.then]
  exact c_ret2 hf rfl rfl rfl ⟨rfl, rfl⟩
set_option maxHeartbeats 1000000 in
set_option maxRecDepth 100000 in
theorem balance_no (p : Option Addr) (car min ec : Int) (w : World) (hec : ec ≠ 0) (hr : Calls Try.prog 74 #[.pointer p, .int .i64 car, .int .i64 min] w fun r w' => r = .returned (.int .i64 ec) ∧ w = w') :
    Calls Try.prog 45 #[.pointer p, .int .i64 car, .int .i64 min] w fun e w' => e = .returned (.tuple #[.int .i64 0, .int .i64 ec]) ∧ w = w' := by
  have HR := Aside.mk hr
  clear hr
  go_enter Try.func45, Try.ntmps45
  refine wp_abs (n := 164) (ds := []) (l := [(0, .pointer p), (1, .int .i64 car), (2, .int .i64 min)]) ?_ ?_
  · refine (((Has.nil ?_ ?_).cons ?_).cons ?_).cons ?_
    all_goals first | rfl | (simp [Act.eval]; done)
  intro _ hf
  refine wp_seq_k ?_
  intro _ _
  refine wp_region_lit ?_
  refine a_assign hf rfl rfl rfl ?_; clear hf; intro _ hf
  refine a_assign hf rfl rfl rfl ?_; clear hf; intro _ hf
  refine wpList_nil ?_
  simp only [Exit.then, Exit.inBlock]
  go_step
  refine wp_seq_k ?_
  intro _ _
  refine wp_seq_k ?_
  intro _ _
  refine wp_region_lit ?_
  refine a_move hf rfl rfl rfl ?_; clear hf; intro _ hf
  refine a_move hf rfl rfl rfl ?_; clear hf; intro _ hf
  refine a_move hf rfl rfl rfl ?_; clear hf; intro _ hf
  refine a_call3 hf e74 rfl rfl rfl rfl rfl ?_; clear hf; refine HR.out.mono ?_; rintro _ w1 ⟨rfl, rfl⟩; intro _ hf
  refine a_assign hf rfl rfl rfl ?_; clear hf; intro _ hf
  refine wpList_nil ?_
  simp only [Exit.then, Exit.inBlock]
  go_step
  refine wp_seq_k ?_
  intro _ _
  refine wp_region_lit ?_
  refine a_move hf rfl rfl rfl ?_; clear hf; intro _ hf
  refine a_cmp (b := true) hf rfl rfl rfl rfl rfl (by first | assumption | ((try dsimp only); simp only [decide_eq_true_eq, decide_eq_false_iff_not, beq_iff_eq, bne_iff_ne, beq_eq_false_iff_ne, bne_eq_false_iff_eq, ne_eq] <;> omega)) rfl ?_; clear hf; intro _ hf
  refine wpList_nil ?_
  simp only [Exit.then, Exit.inBlock]
  go_step
  refine c_condT hf rfl ?_
  refine wp_seq_k ?_
  intro _ _
  refine wp_region_lit ?_
  refine a_move hf rfl rfl rfl ?_; clear hf; intro _ hf
  refine a_assign hf rfl rfl rfl ?_; clear hf; intro _ hf
  refine a_assign hf rfl rfl rfl ?_; clear hf; intro _ hf
  refine wpList_nil ?_
  simp only [Exit.then, Exit.inBlock]
  go_step
  refine wp_ret ?_
  simp only [Exit.then]
  exact c_ret2 hf rfl rfl rfl ⟨rfl, rfl⟩
set_option maxHeartbeats 1000000 in
set_option maxRecDepth 100000 in
theorem clashes_no (p : Option Addr) (min ec : Int) (w : World) (hec : ec ≠ 0) (hr : Calls Try.prog 74 #[.pointer p, .int .i64 1, .int .i64 min] w fun r w' => r = .returned (.int .i64 ec) ∧ w = w') :
    Calls Try.prog 47 #[.pointer p, .int .i64 min] w fun e w' => e = .returned (.tuple #[.slice none 0 0, .int .i64 ec]) ∧ w = w' := by
  have HR := Aside.mk hr
  clear hr
  go_enter Try.func47, Try.ntmps47
  refine wp_abs (n := 57) (ds := []) (l := [(0, .pointer p), (1, .int .i64 min)]) ?_ ?_
  · refine ((Has.nil ?_ ?_).cons ?_).cons ?_
    all_goals first | rfl | (simp [Act.eval]; done)
  intro _ hf
  refine wp_seq_k ?_
  intro _ _
  refine wp_region_lit ?_
  refine a_assign hf rfl rfl rfl ?_; clear hf; intro _ hf
  refine a_assign hf rfl rfl rfl ?_; clear hf; intro _ hf
  refine wpList_nil ?_
  simp only [Exit.then, Exit.inBlock]
  go_step
  refine wp_seq_k ?_
  intro _ _
  refine wp_seq_k ?_
  intro _ _
  refine wp_region_lit ?_
  refine a_move hf rfl rfl rfl ?_; clear hf; intro _ hf
  refine a_move hf rfl rfl rfl ?_; clear hf; intro _ hf
  refine a_call3 hf e74 rfl rfl rfl rfl rfl ?_; clear hf; refine HR.out.mono ?_; rintro _ w1 ⟨rfl, rfl⟩; intro _ hf
  refine a_assign hf rfl rfl rfl ?_; clear hf; intro _ hf
  refine wpList_nil ?_
  simp only [Exit.then, Exit.inBlock]
  go_step
  refine wp_seq_k ?_
  intro _ _
  refine wp_region_lit ?_
  refine a_move hf rfl rfl rfl ?_; clear hf; intro _ hf
  refine a_cmp (b := true) hf rfl rfl rfl rfl rfl (by first | assumption | ((try dsimp only); simp only [decide_eq_true_eq, decide_eq_false_iff_not, beq_iff_eq, bne_iff_ne, beq_eq_false_iff_ne, bne_eq_false_iff_eq, ne_eq] <;> omega)) rfl ?_; clear hf; intro _ hf
  refine wpList_nil ?_
  simp only [Exit.then, Exit.inBlock]
  go_step
  refine c_condT hf rfl ?_
  refine wp_seq_k ?_
  intro _ _
  refine wp_region_lit ?_
  refine a_move hf rfl rfl rfl ?_; clear hf; intro _ hf
  refine a_assign hf rfl rfl rfl ?_; clear hf; intro _ hf
  refine a_assign hf rfl rfl rfl ?_; clear hf; intro _ hf
  refine wpList_nil ?_
  simp only [Exit.then, Exit.inBlock]
  go_step
  refine wp_ret ?_
  simp only [Exit.then]
  exact c_ret2 hf rfl rfl rfl ⟨rfl, rfl⟩
set_option maxHeartbeats 1000000 in
set_option maxRecDepth 100000 in
theorem acts_none (p : Option Addr) (w : World) (hr : Calls Try.prog 61 #[.pointer p] w fun r w' => r = .returned (.bool false) ∧ w = w') :
    Calls Try.prog 29 #[.pointer p] w fun e w' => e = .returned (.slice none 0 0) ∧ w = w' := by
  have HR := Aside.mk hr
  clear hr
  go_enter Try.func29, Try.ntmps29
  refine wp_abs (n := 28) (ds := []) (l := [(0, .pointer p)]) ?_ ?_
  · refine (Has.nil ?_ ?_).cons ?_
    all_goals first | rfl | (simp [Act.eval]; done)
  intro _ hf
  refine wp_seq_k ?_
  intro _ _
  refine wp_region_lit ?_
  refine a_assign hf rfl rfl rfl ?_; clear hf; intro _ hf
  refine wpList_nil ?_
  simp only [Exit.then, Exit.inBlock]
  go_step
  refine wp_seq_k ?_
  intro _ _
  refine wp_seq_k ?_
  intro _ _
  refine wp_region_lit ?_
  refine a_move hf rfl rfl rfl ?_; clear hf; intro _ hf
  refine a_call1 hf e61 rfl rfl rfl ?_; clear hf; refine HR.out.mono ?_; rintro _ w1 ⟨rfl, rfl⟩; intro _ hf
  refine a_not_ hf rfl rfl rfl ?_; clear hf; intro _ hf
  refine wpList_nil ?_
  simp only [Exit.then, Exit.inBlock]
  go_step
  refine c_condT hf rfl ?_
  refine wp_seq_k ?_
  intro _ _
  refine wp_region_lit ?_
  refine a_assign hf rfl rfl rfl ?_; clear hf; intro _ hf
  refine wpList_nil ?_
  simp only [Exit.then, Exit.inBlock]
  go_step
  refine wp_ret ?_
  simp only [Exit.then]
  exact c_ret hf rfl rfl ⟨rfl, rfl⟩
theorem a_len87 {ops : Array Oper} {Q : Exit → Act → World → Prop} {a : Act} {w : World} {rest : List Oper} {n d : Nat} {ds : List Deferred} {l : List (Nat × Value)} {t : TypeId} {ps : String} {af : Array Edge} {g : Option (Nat × Bool)} {x : Operand} {A : Option Addr} {k c : Nat} (H : Has n ds l a) (hg : wantB ops n l g = some true) (hx : lookO l x = some (.slice A k c)) (hd : Nat.ble (d + 1) n = true) (h : ∀ a', Has n ds ((d, .int .i64 (k : Int)) :: l) a' → wpList Try.prog ops Q rest a' w) : wpList Try.prog ops Q (⟨some d, .call ⟨.builtin .len, #[x], #[87]⟩, t, ps, af, g⟩ :: rest) a w :=
  a_do H hg (by have hx := H.evO hx; generalize a.eval = ev at hx; simp [go_sem, hx]) rfl hd h
set_option maxHeartbeats 4000000 in
set_option maxRecDepth 100000 in
theorem empty_any (p : Option Addr) (a : ActL) (A8 : Option Addr) (c8 : Nat) (car min : Int) (w : World) (hr : ∀ W, Below w.heap.size w W → Calls Try.prog 61 #[.pointer p] W fun r w' => r = .returned (.bool false) ∧ W = w') (hk : ∀ car min W, Below w.heap.size w W → Calls Try.prog 74 #[.pointer p, .int .i64 car, .int .i64 min] W fun r w' => r = .returned (.int .i64 1) ∧ W = w')
    (hdo : ∀ W, Below w.heap.size w W → Calls Try.prog 26 #[.pointer p, .agg #[.int .i64 a.kind, .int .i64 a.minute, .int .i64 a.paper, .int .i64 a.case_, .int .i64 a.by_, .int .i64 a.against, .int .i64 a.art, .int .i64 a.at_, .slice A8 a.facts.length c8, .int .i64 a.paid, .bool a.up, .int .i64 a.pen]] W fun r w' => r = .returned (.tuple #[.int .i64 0, .int .i64 1]) ∧ Below W.heap.size W w') :
    Calls Try.prog 51 #[.pointer p, .agg #[.int .i64 a.kind, .int .i64 a.minute, .int .i64 a.paper, .int .i64 a.case_, .int .i64 a.by_, .int .i64 a.against, .int .i64 a.art, .int .i64 a.at_, .slice A8 a.facts.length c8, .int .i64 a.paid, .bool a.up, .int .i64 a.pen], .int .i64 car, .int .i64 min] w fun e w' => e = .returned (.bool true) ∧ Below w.heap.size w w' := by
  have HR := Aside.mk hr
  have HK := Aside.mk hk
  have HD := Aside.mk hdo
  clear hr hk hdo
  go_enter Try.func51, Try.ntmps51
  refine wp_abs (n := 119) (ds := []) (l := [(0, .pointer p), (1, .agg #[.int .i64 a.kind, .int .i64 a.minute, .int .i64 a.paper, .int .i64 a.case_, .int .i64 a.by_, .int .i64 a.against, .int .i64 a.art, .int .i64 a.at_, .slice A8 a.facts.length c8, .int .i64 a.paid, .bool a.up, .int .i64 a.pen]), (2, .int .i64 car), (3, .int .i64 min)]) ?_ ?_
  · refine ((((Has.nil ?_ ?_).cons ?_).cons ?_).cons ?_).cons ?_
    all_goals first | rfl | (simp [Act.eval]; done)
  intro _ hf
  refine wp_seq_k ?_
  intro _ _
  refine wp_region_lit ?_
  refine a_box hf rfl rfl rfl rfl ?_; clear hf; intro _ hf
  refine a_assign hf rfl rfl rfl ?_; clear hf; intro _ hf
  refine wpList_nil ?_
  simp only [Exit.then, Exit.inBlock]
  go_step
  have hA := heap_alloc_new w (.cells #[.int .i64 a.kind, .int .i64 a.minute, .int .i64 a.paper, .int .i64 a.case_, .int .i64 a.by_, .int .i64 a.against, .int .i64 a.art, .int .i64 a.at_, .slice A8 a.facts.length c8, .int .i64 a.paid, .bool a.up, .int .i64 a.pen] 43)
  have hB := bel_alloc (Below.refl _ w) (.cells #[.int .i64 a.kind, .int .i64 a.minute, .int .i64 a.paper, .int .i64 a.case_, .int .i64 a.by_, .int .i64 a.against, .int .i64 a.art, .int .i64 a.at_, .slice A8 a.facts.length c8, .int .i64 a.paid, .bool a.up, .int .i64 a.pen] 43)
  change Code.wp _ _ _ _ (w.alloc (.cells #[.int .i64 a.kind, .int .i64 a.minute, .int .i64 a.paper, .int .i64 a.case_, .int .i64 a.by_, .int .i64 a.against, .int .i64 a.art, .int .i64 a.at_, .slice A8 a.facts.length c8, .int .i64 a.paid, .bool a.up, .int .i64 a.pen] 43))
  generalize (w.alloc (.cells #[.int .i64 a.kind, .int .i64 a.minute, .int .i64 a.paper, .int .i64 a.case_, .int .i64 a.by_, .int .i64 a.against, .int .i64 a.art, .int .i64 a.at_, .slice A8 a.facts.length c8, .int .i64 a.paid, .bool a.up, .int .i64 a.pen] 43)) = w1 at *
  refine wp_seq_k ?_
  intro _ _
  refine wp_region_lit ?_
  refine a_move hf rfl rfl rfl ?_; clear hf; intro _ hf
  refine a_load43b hf rfl rfl (by exact hA) rfl ?_; clear hf; intro _ hf
  refine a_call2 hf e26 rfl rfl rfl rfl ?_; clear hf; refine (HD.out _ hB).mono ?_; rintro _ w2 ⟨rfl, hb⟩; intro _ hf
  refine a_move hf rfl rfl rfl ?_; clear hf; intro _ hf
  refine a_extract hf rfl rfl rfl rfl ?_; clear hf; intro _ hf
  refine a_extract hf rfl rfl rfl rfl ?_; clear hf; intro _ hf
  refine a_assign hf rfl rfl rfl ?_; clear hf; intro _ hf
  refine a_assign hf rfl rfl rfl ?_; clear hf; intro _ hf
  refine wpList_nil ?_
  simp only [Exit.then, Exit.inBlock]
  go_step
  replace hB := bel_then hB hb
  clear hb hA
  refine wp_seq_k ?_
  intro _ _
  refine wp_region_lit ?_
  refine a_move hf rfl rfl rfl ?_; clear hf; intro _ hf
  refine a_move hf rfl rfl rfl ?_; clear hf; intro _ hf
  refine a_move hf rfl rfl rfl ?_; clear hf; intro _ hf
  refine a_call3 hf e31 rfl rfl rfl rfl rfl ?_; clear hf; refine (state_none p _ _ _ (HR.out _ hB)).mono ?_; rintro _ _ ⟨rfl, rfl⟩; intro _ hf
  refine a_move hf rfl rfl rfl ?_; clear hf; intro _ hf
  refine a_extract hf rfl rfl rfl rfl ?_; clear hf; intro _ hf
  refine a_extract hf rfl rfl rfl rfl ?_; clear hf; intro _ hf
  refine a_assign hf rfl rfl rfl ?_; clear hf; intro _ hf
  refine a_assign hf rfl rfl rfl ?_; clear hf; intro _ hf
  refine wpList_nil ?_
  simp only [Exit.then, Exit.inBlock]
  go_step
  refine wp_seq_k ?_
  intro _ _
  refine wp_region_lit ?_
  refine a_move hf rfl rfl rfl ?_; clear hf; intro _ hf
  refine a_move hf rfl rfl rfl ?_; clear hf; intro _ hf
  refine a_move hf rfl rfl rfl ?_; clear hf; intro _ hf
  refine a_call3 hf e32 rfl rfl rfl rfl rfl ?_; clear hf; refine (penalty_no p car min 1 _ (by decide) (fun W hW => (HK.out car min W (bel_then hB hW)).mono fun r w' h => ⟨h.1, h.2 ▸ Below.refl _ _⟩)).mono ?_; rintro _ w3 ⟨rfl, hb⟩; intro _ hf
  refine a_move hf rfl rfl rfl ?_; clear hf; intro _ hf
  refine a_extract hf rfl rfl rfl rfl ?_; clear hf; intro _ hf
  refine a_extract hf rfl rfl rfl rfl ?_; clear hf; intro _ hf
  refine a_extract hf rfl rfl rfl rfl ?_; clear hf; intro _ hf
  refine a_assign hf rfl rfl rfl ?_; clear hf; intro _ hf
  refine a_assign hf rfl rfl rfl ?_; clear hf; intro _ hf
  refine a_assign hf rfl rfl rfl ?_; clear hf; intro _ hf
  refine wpList_nil ?_
  simp only [Exit.then, Exit.inBlock]
  go_step
  replace hB := bel_then hB hb
  clear hb
  refine wp_seq_k ?_
  intro _ _
  refine wp_region_lit ?_
  refine a_move hf rfl rfl rfl ?_; clear hf; intro _ hf
  refine a_move hf rfl rfl rfl ?_; clear hf; intro _ hf
  refine a_move hf rfl rfl rfl ?_; clear hf; intro _ hf
  refine a_call3 hf e49 rfl rfl rfl rfl rfl ?_; clear hf; refine (grounds_no p _ _ 1 _ (by decide) (HK.out _ _ _ hB)).mono ?_; rintro _ _ ⟨rfl, rfl⟩; intro _ hf
  refine a_move hf rfl rfl rfl ?_; clear hf; intro _ hf
  refine a_extract hf rfl rfl rfl rfl ?_; clear hf; intro _ hf
  refine a_extract hf rfl rfl rfl rfl ?_; clear hf; intro _ hf
  refine a_assign hf rfl rfl rfl ?_; clear hf; intro _ hf
  refine a_assign hf rfl rfl rfl ?_; clear hf; intro _ hf
  refine wpList_nil ?_
  simp only [Exit.then, Exit.inBlock]
  go_step
  refine wp_seq_k ?_
  intro _ _
  refine wp_region_lit ?_
  refine a_move hf rfl rfl rfl ?_; clear hf; intro _ hf
  refine a_move hf rfl rfl rfl ?_; clear hf; intro _ hf
  refine a_move hf rfl rfl rfl ?_; clear hf; intro _ hf
  refine a_call3 hf e45 rfl rfl rfl rfl rfl ?_; clear hf; refine (balance_no p _ _ 1 _ (by decide) (HK.out _ _ _ hB)).mono ?_; rintro _ _ ⟨rfl, rfl⟩; intro _ hf
  refine a_move hf rfl rfl rfl ?_; clear hf; intro _ hf
  refine a_extract hf rfl rfl rfl rfl ?_; clear hf; intro _ hf
  refine a_extract hf rfl rfl rfl rfl ?_; clear hf; intro _ hf
  refine a_assign hf rfl rfl rfl ?_; clear hf; intro _ hf
  refine a_assign hf rfl rfl rfl ?_; clear hf; intro _ hf
  refine wpList_nil ?_
  simp only [Exit.then, Exit.inBlock]
  go_step
  refine wp_seq_k ?_
  intro _ _
  refine wp_region_lit ?_
  refine a_move hf rfl rfl rfl ?_; clear hf; intro _ hf
  refine a_move hf rfl rfl rfl ?_; clear hf; intro _ hf
  refine a_call2 hf e47 rfl rfl rfl rfl ?_; clear hf; refine (clashes_no p _ 1 _ (by decide) (HK.out _ _ _ hB)).mono ?_; rintro _ _ ⟨rfl, rfl⟩; intro _ hf
  refine a_move hf rfl rfl rfl ?_; clear hf; intro _ hf
  refine a_extract hf rfl rfl rfl rfl ?_; clear hf; intro _ hf
  refine a_extract hf rfl rfl rfl rfl ?_; clear hf; intro _ hf
  refine a_assign hf rfl rfl rfl ?_; clear hf; intro _ hf
  refine a_assign hf rfl rfl rfl ?_; clear hf; intro _ hf
  refine wpList_nil ?_
  simp only [Exit.then, Exit.inBlock]
  go_step
  refine wp_seq_k ?_
  intro _ _
  refine wp_seq_k ?_
  intro _ _
  refine wp_region_lit ?_
  refine a_move hf rfl rfl rfl ?_; clear hf; intro _ hf
  refine a_cmp hf rfl rfl rfl rfl rfl rfl rfl ?_; clear hf; intro _ hf
  refine a_move hf rfl rfl rfl ?_; clear hf; intro _ hf
  (first | refine a_not hf rfl rfl rfl ?_ | refine a_move hf rfl rfl rfl ?_); clear hf; intro _ hf
  (first | refine a_not hf rfl rfl rfl ?_ | refine a_cmp hf rfl rfl rfl rfl rfl rfl rfl ?_); clear hf; intro _ hf
  (first | refine a_pickT hf rfl rfl rfl rfl ?_ | refine a_pickF hf rfl rfl rfl rfl ?_); clear hf; intro _ hf
  refine a_move hf rfl rfl rfl ?_; clear hf; intro _ hf
  (first | refine a_not hf rfl rfl rfl ?_ | refine a_move hf rfl rfl rfl ?_); clear hf; intro _ hf
  (first | refine a_not hf rfl rfl rfl ?_ | refine a_cmp hf rfl rfl rfl rfl rfl rfl rfl ?_); clear hf; intro _ hf
  (first | refine a_pickT hf rfl rfl rfl rfl ?_ | refine a_pickF hf rfl rfl rfl rfl ?_); clear hf; intro _ hf
  refine a_move hf rfl rfl rfl ?_; clear hf; intro _ hf
  (first | refine a_not hf rfl rfl rfl ?_ | refine a_move hf rfl rfl rfl ?_); clear hf; intro _ hf
  (first | refine a_not hf rfl rfl rfl ?_ | refine a_cmp hf rfl rfl rfl rfl rfl rfl rfl ?_); clear hf; intro _ hf
  (first | refine a_pickT hf rfl rfl rfl rfl ?_ | refine a_pickF hf rfl rfl rfl rfl ?_); clear hf; intro _ hf
  refine a_move hf rfl rfl rfl ?_; clear hf; intro _ hf
  (first | refine a_not hf rfl rfl rfl ?_ | refine a_move hf rfl rfl rfl ?_); clear hf; intro _ hf
  (first | refine a_not hf rfl rfl rfl ?_ | refine a_cmp hf rfl rfl rfl rfl rfl rfl rfl ?_); clear hf; intro _ hf
  (first | refine a_pickT hf rfl rfl rfl rfl ?_ | refine a_pickF hf rfl rfl rfl rfl ?_); clear hf; intro _ hf
  refine a_move hf rfl rfl rfl ?_; clear hf; intro _ hf
  (first | refine a_not hf rfl rfl rfl ?_ | refine a_move hf rfl rfl rfl ?_); clear hf; intro _ hf
  (first | refine a_not hf rfl rfl rfl ?_ | refine a_cmp hf rfl rfl rfl rfl rfl rfl rfl ?_); clear hf; intro _ hf
  (first | refine a_pickT hf rfl rfl rfl rfl ?_ | refine a_pickF hf rfl rfl rfl rfl ?_); clear hf; intro _ hf
  refine wpList_nil ?_
  simp only [Exit.then, Exit.inBlock]
  go_step
  refine c_condF hf rfl ?_
  refine wp_skip ?_
  simp only [Exit.then, Exit.inBlock]
  go_step
  refine wp_seq_k ?_
  intro _ _
  refine wp_region_lit ?_
  refine a_move hf rfl rfl rfl ?_; clear hf; intro _ hf
  refine a_cmp hf rfl rfl rfl rfl rfl rfl rfl ?_; clear hf; intro _ hf
  refine a_move hf rfl rfl rfl ?_; clear hf; intro _ hf
  (first | refine a_not hf rfl rfl rfl ?_ | refine a_move hf rfl rfl rfl ?_); clear hf; intro _ hf
  (first | refine a_not hf rfl rfl rfl ?_ | refine a_cmp52 hf rfl rfl rfl rfl rfl rfl ?_); clear hf; intro _ hf
  (first | refine a_pickT hf rfl rfl rfl rfl ?_ | refine a_pickF hf rfl rfl rfl rfl ?_); clear hf; intro _ hf
  refine a_move hf rfl rfl rfl ?_; clear hf; intro _ hf
  (first | refine a_not hf rfl rfl rfl ?_ | refine a_move hf rfl rfl rfl ?_); clear hf; intro _ hf
  (first | refine a_not hf rfl rfl rfl ?_ | refine a_cmp hf rfl rfl rfl rfl rfl rfl rfl ?_); clear hf; intro _ hf
  (first | refine a_pickT hf rfl rfl rfl rfl ?_ | refine a_pickF hf rfl rfl rfl rfl ?_); clear hf; intro _ hf
  refine a_move hf rfl rfl rfl ?_; clear hf; intro _ hf
  (first | refine a_not hf rfl rfl rfl ?_ | refine a_move hf rfl rfl rfl ?_); clear hf; intro _ hf
  (first | refine a_not hf rfl rfl rfl ?_ | refine a_not_ hf rfl rfl rfl ?_); clear hf; intro _ hf
  (first | refine a_pickT hf rfl rfl rfl rfl ?_ | refine a_pickF hf rfl rfl rfl rfl ?_); clear hf; intro _ hf
  refine a_move hf rfl rfl rfl ?_; clear hf; intro _ hf
  (first | refine a_not hf rfl rfl rfl ?_ | refine a_move hf rfl rfl rfl ?_); clear hf; intro _ hf
  (first | refine a_not hf rfl rfl rfl ?_ | refine a_len hf rfl rfl rfl rfl ?_); clear hf; intro _ hf
  (first | refine a_not hf rfl rfl rfl ?_ | refine a_cmp hf rfl rfl rfl rfl rfl rfl rfl ?_); clear hf; intro _ hf
  (first | refine a_pickT hf rfl rfl rfl rfl ?_ | refine a_pickF hf rfl rfl rfl rfl ?_); clear hf; intro _ hf
  refine a_move hf rfl rfl rfl ?_; clear hf; intro _ hf
  (first | refine a_not hf rfl rfl rfl ?_ | refine a_move hf rfl rfl rfl ?_); clear hf; intro _ hf
  (first | refine a_not hf rfl rfl rfl ?_ | refine a_cmp hf rfl rfl rfl rfl rfl rfl rfl ?_); clear hf; intro _ hf
  (first | refine a_pickT hf rfl rfl rfl rfl ?_ | refine a_pickF hf rfl rfl rfl rfl ?_); clear hf; intro _ hf
  refine a_move hf rfl rfl rfl ?_; clear hf; intro _ hf
  (first | refine a_not hf rfl rfl rfl ?_ | refine a_move hf rfl rfl rfl ?_); clear hf; intro _ hf
  refine a_len87 hf rfl rfl rfl ?_; clear hf; intro _ hf
  (first | refine a_not hf rfl rfl rfl ?_ | refine a_cmp hf rfl rfl rfl rfl rfl rfl rfl ?_); clear hf; intro _ hf
  (first | refine a_pickT hf rfl rfl rfl rfl ?_ | refine a_pickF hf rfl rfl rfl rfl ?_); clear hf; intro _ hf
  refine a_move hf rfl rfl rfl ?_; clear hf; intro _ hf
  (first | refine a_not hf rfl rfl rfl ?_ | refine a_move hf rfl rfl rfl ?_); clear hf; intro _ hf
  refine a_call1 hf e29 rfl rfl rfl ?_; clear hf; refine (acts_none p _ (HR.out _ hB)).mono ?_; rintro _ _ ⟨rfl, rfl⟩; intro _ hf
  (first | refine a_not hf rfl rfl rfl ?_ | refine a_len hf rfl rfl rfl rfl ?_); clear hf; intro _ hf
  (first | refine a_not hf rfl rfl rfl ?_ | refine a_cmp hf rfl rfl rfl rfl rfl rfl rfl ?_); clear hf; intro _ hf
  (first | refine a_pickT hf rfl rfl rfl rfl ?_ | refine a_pickF hf rfl rfl rfl rfl ?_); clear hf; intro _ hf
  refine a_assign hf rfl rfl rfl ?_; clear hf; intro _ hf
  refine wpList_nil ?_
  simp only [Exit.then, Exit.inBlock]
  go_step
  refine wp_ret ?_
  exact c_ret hf rfl rfl ⟨rfl, hB⟩
end Go.Proofs.Ytpadgcomncljmaa.A
/- The law of courts that are not there: its walk. -/
namespace Go.Proofs.Ytpadgcomncljmaa.A
open Go.RowKit
theorem a_zero99 {ops : Array Oper} {Q : Exit → Act → World → Prop} {a : Act} {w : World} {rest : List Oper} {n d : Nat} {ds : List Deferred} {l : List (Nat × Value)} {t : TypeId} {ps : String} {af : Array Edge} {g : Option (Nat × Bool)} (H : Has n ds l a) (hg : wantB ops n l g = some true) (hd : Nat.ble (d + 1) n = true) (h : ∀ a', Has n ds ((d, .agg #[.int .i64 0, .slice none 0 0, .int .i64 0, .int .i64 0, .int .i64 0, .int .i64 0, .bool false, .slice none 0 0, .slice none 0 0]) :: l) a' → wpList Try.prog ops Q rest a' w) : wpList Try.prog ops Q (⟨some d, .build 99 #[], t, ps, af, g⟩ :: rest) a w :=
  a_do H hg (by generalize a.eval = ev; simp [go_sem]) rfl hd h
theorem empty_nil (a : ActL) (A8 : Option Addr) (c8 : Nat) (car min : Int) (w : World) :
    Calls Try.prog 51 #[.pointer none, .agg #[.int .i64 a.kind, .int .i64 a.minute, .int .i64 a.paper, .int .i64 a.case_, .int .i64 a.by_, .int .i64 a.against, .int .i64 a.art, .int .i64 a.at_, .slice A8 a.facts.length c8, .int .i64 a.paid, .bool a.up, .int .i64 a.pen], .int .i64 car, .int .i64 min] w fun e w' => e = .returned (.bool true) ∧ Below w.heap.size w w' :=
  empty_any none a A8 c8 car min w (fun W _ => ready_nil W) (fun car min W _ => check_nil car min W) (fun W _ => do_nil A8 c8 a W)
theorem empty_zero (g : Nat) (a : ActL) (A8 : Option Addr) (c8 : Nat) (car min : Int) (w : World) (hg : w.cell? ⟨g, 6, none⟩ = some (.bool false)) :
    Calls Try.prog 51 #[.pointer (some ⟨g, 0, none⟩), .agg #[.int .i64 a.kind, .int .i64 a.minute, .int .i64 a.paper, .int .i64 a.case_, .int .i64 a.by_, .int .i64 a.against, .int .i64 a.art, .int .i64 a.at_, .slice A8 a.facts.length c8, .int .i64 a.paid, .bool a.up, .int .i64 a.pen], .int .i64 car, .int .i64 min] w fun e w' => e = .returned (.bool true) ∧ Below w.heap.size w w' :=
  empty_any _ a A8 c8 car min w (fun W hW => ready_any g false W ((hW.cell (lt_of_cell hg)).trans hg)) (fun car min W hW => check_closed g car min W ((hW.cell (lt_of_cell hg)).trans hg)) (fun W hW => do_closed g A8 c8 a W ((hW.cell (lt_of_cell hg)).trans hg))
set_option maxHeartbeats 4000000 in
set_option maxRecDepth 100000 in
theorem walk_AppealNil (a : ActL) (A8 : Option Addr) (c8 : Nat) (car min : Int) (w : World) (hl : a.facts.length ≤ c8) (hm : c8 ≤ maxLen) (hf8 : RI Any w A8 a.facts) (hw1 : (Lit.int .i64 car).wf = true) (hw2 : (Lit.int .i64 min).wf = true) :
    Calls Try.prog 15 #[.agg #[.int .i64 a.kind, .int .i64 a.minute, .int .i64 a.paper, .int .i64 a.case_, .int .i64 a.by_, .int .i64 a.against, .int .i64 a.art, .int .i64 a.at_, .slice A8 a.facts.length c8, .int .i64 a.paid, .bool a.up, .int .i64 a.pen], .int .i64 car, .int .i64 min] w fun e w' => e = .returned (.bool true) ∧ Below w.heap.size w w' := by
  have hA := heap_alloc_new w (.cells #[.int .i64 a.kind, .int .i64 a.minute, .int .i64 a.paper, .int .i64 a.case_, .int .i64 a.by_, .int .i64 a.against, .int .i64 a.art, .int .i64 a.at_, .slice A8 a.facts.length c8, .int .i64 a.paid, .bool a.up, .int .i64 a.pen] 43)
  have hB := bel_alloc (Below.refl _ w) (.cells #[.int .i64 a.kind, .int .i64 a.minute, .int .i64 a.paper, .int .i64 a.case_, .int .i64 a.by_, .int .i64 a.against, .int .i64 a.art, .int .i64 a.at_, .slice A8 a.facts.length c8, .int .i64 a.paid, .bool a.up, .int .i64 a.pen] 43)
  go_enter Try.func15, Try.ntmps15
  refine wp_abs (n := 28) (ds := []) (l := [(0, .agg #[.int .i64 a.kind, .int .i64 a.minute, .int .i64 a.paper, .int .i64 a.case_, .int .i64 a.by_, .int .i64 a.against, .int .i64 a.art, .int .i64 a.at_, .slice A8 a.facts.length c8, .int .i64 a.paid, .bool a.up, .int .i64 a.pen]), (1, .int .i64 car), (2, .int .i64 min)]) ?_ ?_
  · refine (((Has.nil ?_ ?_).cons ?_).cons ?_).cons ?_
    all_goals first | rfl | (simp [Act.eval]; done)
  intro _ hf
  refine wp_seq_k ?_
  intro _ _
  refine wp_region_lit ?_
  refine a_box hf rfl rfl rfl rfl ?_; clear hf; intro _ hf
  refine a_assign hf rfl rfl rfl ?_; clear hf; intro _ hf
  refine wpList_nil ?_
  simp only [Exit.then, Exit.inBlock]
  go_step
  change Code.wp _ _ _ _ (w.alloc (.cells #[.int .i64 a.kind, .int .i64 a.minute, .int .i64 a.paper, .int .i64 a.case_, .int .i64 a.by_, .int .i64 a.against, .int .i64 a.art, .int .i64 a.at_, .slice A8 a.facts.length c8, .int .i64 a.paid, .bool a.up, .int .i64 a.pen] 43))
  generalize (w.alloc (.cells #[.int .i64 a.kind, .int .i64 a.minute, .int .i64 a.paper, .int .i64 a.case_, .int .i64 a.by_, .int .i64 a.against, .int .i64 a.art, .int .i64 a.at_, .slice A8 a.facts.length c8, .int .i64 a.paid, .bool a.up, .int .i64 a.pen] 43)) = w1 at *
  refine wp_seq_k ?_
  intro _ _
  by_cases hfl : 25 < a.facts.length
  · refine wp_region_lit ?_
    refine a_field hf rfl rfl rfl rfl ?_; clear hf; intro _ hf
    refine a_load hf rfl rfl rfl (by exact blk_cell hA 8) rfl ?_; clear hf; intro _ hf
    refine a_len hf rfl rfl rfl rfl ?_; clear hf; intro _ hf
    refine a_cmp (b := true) hf rfl rfl rfl rfl rfl (by first | assumption | ((try dsimp only); simp only [decide_eq_true_eq, decide_eq_false_iff_not, beq_iff_eq, bne_iff_ne, beq_eq_false_iff_ne, bne_eq_false_iff_eq, ne_eq] <;> omega)) rfl ?_; clear hf; intro _ hf
    refine a_move hf rfl rfl rfl ?_; clear hf; intro _ hf
    refine a_not hf rfl rfl rfl ?_; clear hf; intro _ hf
    refine a_not hf rfl rfl rfl ?_; clear hf; intro _ hf
    refine a_not hf rfl rfl rfl ?_; clear hf; intro _ hf
    refine a_not hf rfl rfl rfl ?_; clear hf; intro _ hf
    refine a_not hf rfl rfl rfl ?_; clear hf; intro _ hf
    refine a_not hf rfl rfl rfl ?_; clear hf; intro _ hf
    refine a_not hf rfl rfl rfl ?_; clear hf; intro _ hf
    refine a_not hf rfl rfl rfl ?_; clear hf; intro _ hf
    refine a_not hf rfl rfl rfl ?_; clear hf; intro _ hf
    refine a_not hf rfl rfl rfl ?_; clear hf; intro _ hf
    refine a_not hf rfl rfl rfl ?_; clear hf; intro _ hf
    refine a_not hf rfl rfl rfl ?_; clear hf; intro _ hf
    refine a_not hf rfl rfl rfl ?_; clear hf; intro _ hf
    refine a_not hf rfl rfl rfl ?_; clear hf; intro _ hf
    refine a_not hf rfl rfl rfl ?_; clear hf; intro _ hf
    (first | refine a_pickT hf rfl rfl rfl rfl ?_ | refine a_pickF hf rfl rfl rfl rfl ?_); clear hf; intro _ hf
    refine a_assign hf rfl rfl rfl ?_; clear hf; intro _ hf
    refine wpList_nil ?_
    simp only [Exit.then, Exit.inBlock]
    go_step
    refine wp_ret ?_
    exact c_ret hf rfl rfl ⟨rfl, hB⟩
  · refine wp_region_lit ?_
    refine a_field hf rfl rfl rfl rfl ?_; clear hf; intro _ hf
    refine a_load hf rfl rfl rfl (by exact blk_cell hA 8) rfl ?_; clear hf; intro _ hf
    refine a_len hf rfl rfl rfl rfl ?_; clear hf; intro _ hf
    refine a_cmp (b := false) hf rfl rfl rfl rfl rfl (by first | assumption | ((try dsimp only); simp only [decide_eq_true_eq, decide_eq_false_iff_not, beq_iff_eq, bne_iff_ne, beq_eq_false_iff_ne, bne_eq_false_iff_eq, ne_eq] <;> omega)) rfl ?_; clear hf; intro _ hf
    refine a_move hf rfl rfl rfl ?_; clear hf; intro _ hf
    (first | refine a_not hf rfl rfl rfl ?_ | refine a_load43b hf rfl rfl (by exact hA) rfl ?_); clear hf; intro _ hf
    (first | refine a_not hf rfl rfl rfl ?_ | refine a_move hf rfl rfl rfl ?_); clear hf; intro _ hf
    (first | refine a_not hf rfl rfl rfl ?_ | refine a_move hf rfl rfl rfl ?_); clear hf; intro _ hf
    refine a_call4 hf e51 rfl rfl rfl rfl rfl rfl ?_; clear hf; refine (empty_nil a A8 c8 car min _).mono ?_; rintro _ w2 ⟨rfl, hb⟩; intro _ hf
    (first | refine a_not hf rfl rfl rfl ?_ | refine a_move hf rfl rfl rfl ?_); clear hf; intro _ hf
    refine a_zero99 hf rfl rfl ?_; clear hf; intro _ hf
    (first | refine a_not hf rfl rfl rfl ?_ | refine a_box hf rfl rfl rfl rfl ?_); clear hf; intro _ hf
    (first | refine a_not hf rfl rfl rfl ?_ | refine a_load43b hf rfl rfl (by exact (by rw [heap_alloc_old _ _ (Nat.lt_of_lt_of_le (blk_lt hA) hb.size)]; exact (hb.block _ (blk_lt hA)).trans hA)) rfl ?_); clear hf; intro _ hf
    (first | refine a_not hf rfl rfl rfl ?_ | refine a_move hf rfl rfl rfl ?_); clear hf; intro _ hf
    (first | refine a_not hf rfl rfl rfl ?_ | refine a_move hf rfl rfl rfl ?_); clear hf; intro _ hf
    have hZ := heap_alloc_new w2 (.cells #[.int .i64 0, .slice none 0 0, .int .i64 0, .int .i64 0, .int .i64 0, .int .i64 0, .bool false, .slice none 0 0, .slice none 0 0] 99)
    have hb2 := bel_alloc hb (.cells #[.int .i64 0, .slice none 0 0, .int .i64 0, .int .i64 0, .int .i64 0, .int .i64 0, .bool false, .slice none 0 0, .slice none 0 0] 99)
    refine a_call4 hf e51 rfl rfl rfl rfl rfl rfl ?_; clear hf; refine (empty_zero w2.heap.size a A8 c8 car min _ (blk_cell hZ 6)).mono ?_; rintro _ w3 ⟨rfl, hb3⟩; intro _ hf
    (first | refine a_not hf rfl rfl rfl ?_ | refine a_pickT hf rfl rfl rfl rfl ?_ | refine a_pickF hf rfl rfl rfl rfl ?_); clear hf; intro _ hf
    (first | refine a_not hf rfl rfl rfl ?_ | refine a_move hf rfl rfl rfl ?_); clear hf; intro _ hf
    refine a_call0 hf e16 rfl rfl ?_; clear hf; refine (known_any _).mono ?_; rintro _ w4 ⟨rfl, hb4⟩; intro _ hf
    (first | refine a_not hf rfl rfl rfl ?_ | refine a_pickT hf rfl rfl rfl rfl ?_ | refine a_pickF hf rfl rfl rfl rfl ?_); clear hf; intro _ hf
    (first | refine a_pickT hf rfl rfl rfl rfl ?_ | refine a_pickF hf rfl rfl rfl rfl ?_); clear hf; intro _ hf
    refine a_assign hf rfl rfl rfl ?_; clear hf; intro _ hf
    refine wpList_nil ?_
    simp only [Exit.then, Exit.inBlock]
    go_step
    refine wp_ret ?_
    exact c_ret hf rfl rfl ⟨rfl, bel_then (bel_then (bel_then hB hb2) hb3) hb4⟩
end Go.Proofs.Ytpadgcomncljmaa.A
/- What a nil court and the zero court return: the law AppealNil is true for every act, car and minute, and leaves its arguments as they read. No condition. -/
namespace Go.Proofs.Ytpadgcomncljmaa.A
open Go.ChangeShapes Go.WideShapes Go.ChangeAt Go.RowKit
theorem own_AppealNil : ownKnob Try.prog.godebug = none := by kernel_rfl
set_option maxRecDepth 100000 in
theorem lifted_AppealNil (os : Os) (started : os.Started) (H : Type) (enc : TypeId × Value → H) :
    ReturnsInHanded {} Try.checked os 15 .any (Rows.appealNilSpec.pre6 enc Try.prog Try.f15 Rows.appealNilRow.domain false) (Rows.appealNilSpec.post enc Try.prog Try.f15 false true false false) := by
  refine returnsInHanded_of_change (C := Try.checked) own_AppealNil started (by kernel_rfl) Try.func15
    (ChangeSpec.witness6 (enc := enc) (C := Try.checked) false ⟨#[], #[.agg #[.int .i64 0, .int .i64 0, .int .i64 0, .int .i64 0, .int .i64 0, .int .i64 0, .int .i64 0, .int .i64 0, .slice none 0 0, .int .i64 0, .bool false, .int .i64 0], .int .i64 0, .int .i64 0], []⟩ 8 (by kernel_rfl) (by kernel_rfl) (by kernel_rfl) (by kernel_rfl)) ?_
  intro W base args ds gs before hval0 hW hcnd _
  have hval : ∀ (j : Nat) t v, Try.f15.params[j]? = some t → args[j]? = some v → Value.okWide Try.prog W .any base t v := hval0
  have hW' := hW
  obtain ⟨p, q, hA0, hV, rfl, hfz, hnd⟩ := hW
  have hA : DataW.TrodAll enc Try.prog W 0 (fun _ => true) true Try.f15.params.toList args.toList ds p := hA0
  rw [Try.params15] at hA hval
  obtain ⟨v0, vs0, d0, ds0, p0, q0, hargs, rfl, rfl, h0, r0⟩ := trodAll_cons hA
  obtain ⟨v1, vs1, d1, ds1, p1, q1, rfl, rfl, rfl, h1, r1⟩ := trodAll_cons r0
  obtain ⟨v2, vs2, d2, ds2, p2, q2, rfl, rfl, rfl, h2, r2⟩ := trodAll_cons r1
  obtain ⟨rfl, rfl, rfl⟩ := trodAll_nil r2
  obtain rfl : args = #[v0, v1, v2] := by cases args; simp_all
  obtain ⟨rfl, rfl⟩ := trodVars_none hV
  clear hA0 hval0
  simp only [List.append_nil] at hW'
  have hlt : ∀ x ∈ p0 ++ p1 ++ p2, x.block < W.heap.size := fun x hx => by simpa using hW'.lt x (by simpa using hx)
  have hk0 := fun (W' : World) (hn : Below W.heap.size W W') => Below.trod laidOut (by kernel_rfl) (of_decide_eq_true (by kernel_rfl)) h0 hn (fun x hx => hlt x (by simp [hx]))
  have hk1 := fun (W' : World) (hn : Below W.heap.size W W') => Below.trod laidOut (by kernel_rfl) (of_decide_eq_true (by kernel_rfl)) h1 hn (fun x hx => hlt x (by simp [hx]))
  have hk2 := fun (W' : World) (hn : Below W.heap.size W W') => Below.trod laidOut (by kernel_rfl) (of_decide_eq_true (by kernel_rfl)) h2 hn (fun x hx => hlt x (by simp [hx]))
  obtain ⟨a0, A0, c0, ra0, l0, m0, f0⟩ := arg43 (hval 0 43 v0 rfl rfl) h0
  subst ra0
  obtain ⟨a1, ra1, _, _, w1⟩ := open_int Try.underlying3 (hval 1 3 v1 rfl rfl) h1
  subst ra1
  obtain ⟨a2, ra2, _, _, w2⟩ := open_int Try.underlying3 (hval 2 3 v2 rfl rfl) h2
  subst ra2
  refine (walk_AppealNil a0 A0 c0 a1 a2 W l0 m0 f0 w1 w2).mono fun e W' ⟨he, hb⟩ => ?_
  subst he
  exact ⟨_, rfl, [d0, d1, d2], [], _, [], _, [], hW', trodAll_cons_mk (shut_bool Try.underlying4 _) trodAll_mk0, trodAll_cons_mk (hk0 W' hb) (trodAll_cons_mk (hk1 W' hb) (trodAll_cons_mk (hk2 W' hb) trodAll_mk0)), rfl, hb.frame _, fun h => by cases h⟩
theorem over_AppealNil : Rows.appealNilRow.holds Try.pinned (OpenSpec.ofChange Rows.appealNilSpec) :=
  OpenClaim.holds_of_wide 15 Try.f15 rfl rfl rfl rfl rfl rfl rfl ⟨rfl, rfl, rfl, rfl, rfl⟩ rfl rfl rfl rfl rfl (by kernel_rfl) Try.func15 (by kernel_rfl)
    (of_decide_eq_true (by kernel_rfl)) (by unfold Func.isWrapper; first | (rw [if_pos (by decide +kernel)]; kernel_rfl) | (rw [if_neg (by decide +kernel)]; exact ⟨rfl, rfl⟩))
    (fun os started H enc _ => lifted_AppealNil os started H enc)
end Go.Proofs.Ytpadgcomncljmaa.A
namespace Go.Proofs.Ytpadgcomncljmaa
theorem appealNil_holds : Rows.AppealNilSaid := A.over_AppealNil
#print axioms appealNil_holds
end Go.Proofs.Ytpadgcomncljmaa
