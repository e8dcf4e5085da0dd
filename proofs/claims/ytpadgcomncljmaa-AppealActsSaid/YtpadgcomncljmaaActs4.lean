/- Which acts are done and which are refused: the law AppealActs is true for every code and every list of acts, and leaves its arguments as they read. No condition. -/
import Derived.Test.YtpadgcomncljmaaRows
import Derived.ProofKit
import Derived.OpenShut
import Derived.Test.YtpadgcomncljmaaActs3
set_option linter.all false
namespace Go.Proofs.Ytpadgcomncljmaa.A
open Go.RowKit
section
variable {ops : Array Oper} {Q : Exit → Act → World → Prop} {a : Act} {w : World} {rest : List Oper} {n d : Nat} {ds : List Deferred} {l : List (Nat × Value)} {t : TypeId} {ps : String} {af : Array Edge} {g : Option (Nat × Bool)} {x : Operand} {p : Option Addr}
theorem a_eqN (H : Has n ds l a) (hg : wantB ops n l g = some true) (hx : lookO l x = some (.pointer p)) (hd : Nat.ble (d + 1) n = true) (h : ∀ a', Has n ds ((d, .bool p.isNone) :: l) a' → wpList Try.prog ops Q rest a' w) : wpList Try.prog ops Q (⟨some d, .binOp .eql 37 x (.const (.pointer none)) 37, t, ps, af, g⟩ :: rest) a w :=
  a_do H hg (by have h1 := H.evO hx; have h2 := H.evO (x := .const (.pointer none)) rfl; generalize a.eval = ev at h1 h2; cases p <;> simp [go_sem, h1, h2]) rfl hd h
end
theorem fit_as (C : CodeL) (A : Option Addr) (c : Nat) (b : Bool) (hb : fitB C.arts.length = b) (w : World) : Calls Try.prog 21 #[.agg #[.int .i64 C.cars, .slice A C.arts.length c, .int .i64 C.win, .int .i64 C.sec, .int .i64 C.fee, .int .i64 C.price]] w fun e w' => e = .returned (.bool b) ∧ Below w.heap.size w w' := by
  subst hb
  exact fit_any C.cars C.win C.sec C.fee C.price A c C.arts.length w
theorem refCode_as (C : CodeL) (A : Option Addr) (c : Nat) (b : Bool) (hb : codeOk C = b) (w : World) (hl : RArt Any w A C.arts) (hn : C.arts.length ≤ 1000000) : Calls Try.prog 23 #[.agg #[.int .i64 C.cars, .slice A C.arts.length c, .int .i64 C.win, .int .i64 C.sec, .int .i64 C.fee, .int .i64 C.price]] w fun e w' => e = .returned (.bool b) ∧ Below w.heap.size w w' := by
  subst hb
  exact refCode_any C.cars C.win C.sec C.fee C.price A c C.arts w hl hn
theorem fit_len {n : Nat} (h : fitB n = true) : n ≤ 1000000 := by
  simp only [fitB, Bool.or_eq_true, Bool.and_eq_true, decide_eq_true_eq] at h
  omega
end Go.Proofs.Ytpadgcomncljmaa.A
/- The law of acts: its walk. -/
namespace Go.Proofs.Ytpadgcomncljmaa.A
open Go.RowKit
theorem few_as (A : Option Addr) (ca : Nat) (l : List ActL) (b : Bool) (hb : fewB l 25 = b) (w : World) (ha : RAct Any w A l) (hn : l.length ≤ 9223372036854775807) : Calls Try.prog 22 #[.slice A l.length ca, .int .i64 25] w fun e w' => e = .returned (.bool b) ∧ Below w.heap.size w w' := by
  subst hb
  exact few_any A ca l 25 w ha (by decide) hn
theorem few_facts {l : List ActL} (h : fewB l 25 = true) : l.length ≤ 25 ∧ ∀ x ∈ l, x.facts.length ≤ 25 := by
  simp only [fewB, fewAll, Bool.and_eq_true, decide_eq_true_eq, List.all_eq_true] at h; refine ⟨h.2, fun x hx => h.1 x ?_⟩
  rwa [List.take_of_length_le (by omega)]
/-- a court, and the record of what it has done -/
structure ActW (w : World) (O : Nat → Prop) (wr : World) (g : Nat) (C : CodeL) (acts : List ActL) (files : List FileL) (v : Value) (cs : List (List Value)) : Prop where
  crt : CrtO O wr g C acts files
  oge : ∀ k, O k → w.heap.size < k
  own : wr.ownsRow w.heap.size 43 12 v acts.length cs.flatten
  are : ActsAre (fun j => j < w.heap.size) wr acts cs
  far : ∀ j, v.ownBlock = some j → ¬ O j
theorem ActW.below {w : World} {O : Nat → Prop} {wr wr' : World} {g : Nat} {C : CodeL} {acts : List ActL} {files : List FileL} {v : Value} {cs : List (List Value)} (h : ActW w O wr g C acts files v cs) (hb : Below wr.heap.size wr wr') : ActW w O wr' g C acts files v cs :=
  ⟨h.crt.below hb, h.oge, own_below h.own hb, h.are.move (fun j _ hl => hb.block j hl), h.far⟩
theorem ActW.reads {w : World} {O : Nat → Prop} {wr : World} {g : Nat} {C : CodeL} {acts : List ActL} {files : List FileL} {v : Value} {cs : List (List Value)} (h : ActW w O wr g C acts files v cs) : ∃ A c, v = .slice A acts.length c ∧ RAct Any wr A acts := by
  obtain ⟨A, c, hv, _, _, hr⟩ := own_acts h.own h.are
  exact ⟨A, c, hv, hr⟩
/-- behind an act -/
theorem ActW.did {w : World} {O : Nat → Prop} {wr w2 : World} {g : Nat} {C : CodeL} {acts acts' : List ActL} {files files' : List FileL} {v : Value} {cs : List (List Value)} (h : ActW w O wr g C acts files v cs) (hM : Mod O wr w2) (hK : CrtO (grow O wr w2) w2 g C acts' files') (hw : w.heap.size < wr.heap.size) :
    CrtO (grow O wr w2) w2 g C acts' files' ∧ (∀ k, grow O wr w2 k → w.heap.size < k) ∧ w2.ownsRow w.heap.size 43 12 v acts.length cs.flatten ∧ ActsAre (fun j => j < w.heap.size) w2 acts cs ∧ (∀ j, v.ownBlock = some j → ¬ grow O wr w2 j) := by
  refine ⟨hK, fun k hk => ?_, own_keep h.own (fun k hk => hM.block k (own_lt' h.own k hk) (h.far k hk)), h.are.move (fun j hj hl => hM.block j hl (fun hO => by have := h.oge j hO; omega)), fun j hj hg => ?_⟩
  · rcases hk.1 with h' | h'
    · exact h.oge k h'
    · omega
  · rcases hg.1 with h' | h'
    · exact h.far j hj h'
    · have := own_lt' h.own j hj; omega
theorem do_num {C : CodeL} {acts : List ActL} {files : List FileL} {a : ActL} {n : Int} (H : Inv C acts files) (h : doR C acts files a = .ok n) : (a.kind = 1 ∧ n = -1) ∨ (a.kind = 2 ∧ n = ((protGo (acts ++ [a]) 0).length : Int) - 1) ∨ (¬ a.kind = 1 ∧ ¬ a.kind = 2 ∧ n = a.case_) := by
  obtain ⟨h1, h2, h3, h4⟩ := doR_ok h
  have hpl : (protGo acts 0).length = files.length := by rw [← H.prot, List.length_map]
  unfold actR publishR protestR rulingR appealR dropR at h4
  by_cases k1 : a.kind = 1
  · rw [if_pos k1] at h4
    left
    split at h4
    · cases h4
    · cases h4; exact ⟨k1, rfl⟩
  by_cases k2 : a.kind = 2
  · rw [if_neg k1, if_pos k2] at h4
    right; left
    refine ⟨k2, ?_⟩; rw [prot_app, if_pos k2, List.length_append, hpl]
    split at h4
    · cases h4
    split at h4
    · cases h4
    split at h4
    · cases h4
    · cases h4; simp
  · rw [if_neg k1, if_neg k2] at h4
    refine .inr (.inr ⟨k1, k2, ?_⟩)
    repeat' split at h4
    all_goals first | (cases h4; rfl) | cases h4
theorem prot_len : ∀ (l : List ActL) (i : Int), (protGo l i).length ≤ l.length
  | [], i => by simp [protGo]
  | x :: l, i => by
    have := prot_len l (i + 1)
    by_cases hx : x.kind = 2
    · rw [prot_hit hx]; simpa using this
    · rw [prot_miss hx]; simp; omega
theorem mod_lt {O : Nat → Prop} {w wr w2 : World} (h : Below w.heap.size w wr) (hM : Mod O wr w2) (hO : ∀ k, O k → w.heap.size < k) : Below w.heap.size w w2 :=
  ⟨hM.os.trans h.os, hM.tape.trans h.tape, hM.output.trans h.output, Nat.le_trans h.size hM.size, fun k hk => (hM.block k (Nat.lt_of_lt_of_le hk h.size) (fun h' => by have := hO k h'; omega)).trans (h.block k hk)⟩
set_option maxHeartbeats 4000000 in
set_option maxRecDepth 100000 in
theorem walk_AppealActs (C : CodeL) (A1 : Option Addr) (c1 : Nat) (A : Option Addr) (l : List ActL) (c : Nat) (w : World) (hlc1 : C.arts.length ≤ c1) (hm1 : c1 ≤ maxLen) (hC : RArt Any w A1 C.arts) (hlc : l.length ≤ c) (hm : c ≤ maxLen) (hl : RAct Any w A l) :
    Calls Try.prog 4 #[.agg #[.int .i64 C.cars, .slice A1 C.arts.length c1, .int .i64 C.win, .int .i64 C.sec, .int .i64 C.fee, .int .i64 C.price], .slice A l.length c] w fun e w' => e = .returned (.bool true) ∧ Below w.heap.size w w' := by
  have HC := Aside.mk hC; have HL := Aside.mk hl; have hll : l.length ≤ 9223372036854775807 := by simp only [maxLen] at hm; omega
  have h2 : (w.alloc (.cells #[.int .i64 C.cars, .slice A1 C.arts.length c1, .int .i64 C.win, .int .i64 C.sec, .int .i64 C.fee, .int .i64 C.price] 33)).heap[w.heap.size]? = some (.cells #[.int .i64 C.cars, .slice A1 C.arts.length c1, .int .i64 C.win, .int .i64 C.sec, .int .i64 C.fee, .int .i64 C.price] 33 (0, 0)) := heap_alloc_new w _; have hB : Below w.heap.size w (w.alloc (.cells #[.int .i64 C.cars, .slice A1 C.arts.length c1, .int .i64 C.win, .int .i64 C.sec, .int .i64 C.fee, .int .i64 C.price] 33)) := bel_alloc (Below.refl _ _) _
  obtain ⟨i43, hi43, hz0, hz1, hz2⟩ := info_parts info43
  clear hC hl
  go_enter Try.func4, Try.ntmps4
  refine wp_abs (n := 101) (ds := []) (l := [(0, .agg #[.int .i64 C.cars, .slice A1 C.arts.length c1, .int .i64 C.win, .int .i64 C.sec, .int .i64 C.fee, .int .i64 C.price]), (1, .slice A l.length c)]) ?_ ?_
  · refine ((Has.nil ?_ ?_).cons ?_).cons ?_
    all_goals first | rfl | (simp [Act.eval]; done)
  intro _ hf; refine wp_seq_k ?_; intro _ _; refine wp_region_lit ?_; refine a_box hf rfl rfl rfl rfl ?_;clear hf;intro _ hf; refine a_assign hf rfl rfl rfl ?_;clear hf;intro _ hf; refine wpList_nil ?_; simp only [Exit.then, Exit.inBlock]; go_step
  change Code.wp _ _ _ _ (w.alloc (.cells #[.int .i64 C.cars, .slice A1 C.arts.length c1, .int .i64 C.win, .int .i64 C.sec, .int .i64 C.fee, .int .i64 C.price] 33))
  generalize (w.alloc (.cells #[.int .i64 C.cars, .slice A1 C.arts.length c1, .int .i64 C.win, .int .i64 C.sec, .int .i64 C.fee, .int .i64 C.price] 33)) = W0 at *
  refine wp_seq_k ?_; intro _ _; refine wp_seq_k ?_; intro _ _
  cases hfit : fitB C.arts.length with
  | false =>
    refine wp_region_lit ?_; refine a_load33b hf rfl rfl (by exact h2) rfl ?_;clear hf;intro _ hf; refine a_call1 hf e21 rfl rfl rfl ?_; clear hf; refine (fit_as C A1 c1 false hfit _).mono ?_; rintro _ w1 ⟨rfl, hb⟩; replace hB := bel_then hB hb; replace h2 := (hb.block _ (blk_lt h2)).trans h2; clear hb; intro _ hf; refine a_not_ hf rfl rfl rfl ?_;clear hf;intro _ hf; refine a_move hf rfl rfl rfl ?_;clear hf;intro _ hf
    (first | refine a_not hf rfl rfl rfl ?_ | refine a_move hf rfl rfl rfl ?_);clear hf;intro _ hf
    refine a_not hf rfl rfl rfl ?_;clear hf;intro _ hf
    (first | refine a_not hf rfl rfl rfl ?_ | refine a_not_ hf rfl rfl rfl ?_);clear hf;intro _ hf
    (first | refine a_pickT hf rfl rfl rfl rfl ?_ | refine a_pickF hf rfl rfl rfl rfl ?_);clear hf;intro _ hf
    refine a_move hf rfl rfl rfl ?_;clear hf;intro _ hf
    (first | refine a_not hf rfl rfl rfl ?_ | refine a_load33b hf rfl rfl (by exact h2) rfl ?_);clear hf;intro _ hf
    refine a_not hf rfl rfl rfl ?_;clear hf;intro _ hf
    (first | refine a_not hf rfl rfl rfl ?_ | refine a_not_ hf rfl rfl rfl ?_);clear hf;intro _ hf
    (first | refine a_pickT hf rfl rfl rfl rfl ?_ | refine a_pickF hf rfl rfl rfl rfl ?_);clear hf;intro _ hf
    refine wpList_nil ?_; simp only [Exit.then, Exit.inBlock]; go_step; refine c_condT hf rfl ?_; refine wp_seq_k ?_; intro _ _; refine wp_region_lit ?_; refine a_call0 hf e16 rfl rfl ?_; clear hf; refine (known_any _).mono ?_; rintro _ w1 ⟨rfl, hb⟩; replace hB := bel_then hB hb; replace h2 := (hb.block _ (blk_lt h2)).trans h2; clear hb; intro _ hf; refine a_assign hf rfl rfl rfl ?_;clear hf;intro _ hf; refine wpList_nil ?_; simp only [Exit.then, Exit.inBlock]; go_step; refine wp_ret ?_
    try simp only [Exit.then, Exit.inBlock]
    exact c_ret hf rfl rfl ⟨rfl, hB⟩
  | true =>
  have hn := fit_len hfit
  cases hfew : fewB l 25 with
  | false =>
    refine wp_region_lit ?_; refine a_load33b hf rfl rfl (by exact h2) rfl ?_;clear hf;intro _ hf; refine a_call1 hf e21 rfl rfl rfl ?_; clear hf; refine (fit_as C A1 c1 true hfit _).mono ?_; rintro _ w1 ⟨rfl, hb⟩; replace hB := bel_then hB hb; replace h2 := (hb.block _ (blk_lt h2)).trans h2; clear hb; intro _ hf; refine a_not_ hf rfl rfl rfl ?_;clear hf;intro _ hf; refine a_move hf rfl rfl rfl ?_;clear hf;intro _ hf
    (first | refine a_not hf rfl rfl rfl ?_ | refine a_move hf rfl rfl rfl ?_);clear hf;intro _ hf
    refine a_call2 hf e22 rfl rfl rfl rfl ?_; clear hf; refine (few_as A c l false hfew _ (HL.out.below hB) hll).mono ?_; rintro _ w1 ⟨rfl, hb⟩; replace hB := bel_then hB hb; replace h2 := (hb.block _ (blk_lt h2)).trans h2; clear hb; intro _ hf
    (first | refine a_not hf rfl rfl rfl ?_ | refine a_not_ hf rfl rfl rfl ?_);clear hf;intro _ hf
    (first | refine a_pickT hf rfl rfl rfl rfl ?_ | refine a_pickF hf rfl rfl rfl rfl ?_);clear hf;intro _ hf
    refine a_move hf rfl rfl rfl ?_;clear hf;intro _ hf
    (first | refine a_not hf rfl rfl rfl ?_ | refine a_load33b hf rfl rfl (by exact h2) rfl ?_);clear hf;intro _ hf
    refine a_not hf rfl rfl rfl ?_;clear hf;intro _ hf
    (first | refine a_not hf rfl rfl rfl ?_ | refine a_not_ hf rfl rfl rfl ?_);clear hf;intro _ hf
    (first | refine a_pickT hf rfl rfl rfl rfl ?_ | refine a_pickF hf rfl rfl rfl rfl ?_);clear hf;intro _ hf
    refine wpList_nil ?_; simp only [Exit.then, Exit.inBlock]; go_step; refine c_condT hf rfl ?_; refine wp_seq_k ?_; intro _ _; refine wp_region_lit ?_; refine a_call0 hf e16 rfl rfl ?_; clear hf; refine (known_any _).mono ?_; rintro _ w1 ⟨rfl, hb⟩; replace hB := bel_then hB hb; replace h2 := (hb.block _ (blk_lt h2)).trans h2; clear hb; intro _ hf; refine a_assign hf rfl rfl rfl ?_;clear hf;intro _ hf; refine wpList_nil ?_; simp only [Exit.then, Exit.inBlock]; go_step; refine wp_ret ?_
    try simp only [Exit.then, Exit.inBlock]
    exact c_ret hf rfl rfl ⟨rfl, hB⟩
  | true =>
  have hfw := few_facts hfew
  cases hcode : codeOk C with
  | false =>
    refine wp_region_lit ?_; refine a_load33b hf rfl rfl (by exact h2) rfl ?_;clear hf;intro _ hf; refine a_call1 hf e21 rfl rfl rfl ?_; clear hf; refine (fit_as C A1 c1 true hfit _).mono ?_; rintro _ w1 ⟨rfl, hb⟩; replace hB := bel_then hB hb; replace h2 := (hb.block _ (blk_lt h2)).trans h2; clear hb; intro _ hf; refine a_not_ hf rfl rfl rfl ?_;clear hf;intro _ hf; refine a_move hf rfl rfl rfl ?_;clear hf;intro _ hf
    (first | refine a_not hf rfl rfl rfl ?_ | refine a_move hf rfl rfl rfl ?_);clear hf;intro _ hf
    refine a_call2 hf e22 rfl rfl rfl rfl ?_; clear hf; refine (few_as A c l true hfew _ (HL.out.below hB) hll).mono ?_; rintro _ w1 ⟨rfl, hb⟩; replace hB := bel_then hB hb; replace h2 := (hb.block _ (blk_lt h2)).trans h2; clear hb; intro _ hf
    (first | refine a_not hf rfl rfl rfl ?_ | refine a_not_ hf rfl rfl rfl ?_);clear hf;intro _ hf
    (first | refine a_pickT hf rfl rfl rfl rfl ?_ | refine a_pickF hf rfl rfl rfl rfl ?_);clear hf;intro _ hf
    refine a_move hf rfl rfl rfl ?_;clear hf;intro _ hf
    (first | refine a_not hf rfl rfl rfl ?_ | refine a_load33b hf rfl rfl (by exact h2) rfl ?_);clear hf;intro _ hf
    refine a_call1 hf e23 rfl rfl rfl ?_; clear hf; refine (refCode_as C A1 c1 false hcode _ (HC.out.below hB) hn).mono ?_; rintro _ w1 ⟨rfl, hb⟩; replace hB := bel_then hB hb; replace h2 := (hb.block _ (blk_lt h2)).trans h2; clear hb; intro _ hf
    (first | refine a_not hf rfl rfl rfl ?_ | refine a_not_ hf rfl rfl rfl ?_);clear hf;intro _ hf
    (first | refine a_pickT hf rfl rfl rfl rfl ?_ | refine a_pickF hf rfl rfl rfl rfl ?_);clear hf;intro _ hf
    refine wpList_nil ?_; simp only [Exit.then, Exit.inBlock]; go_step; refine c_condT hf rfl ?_; refine wp_seq_k ?_; intro _ _; refine wp_region_lit ?_; refine a_call0 hf e16 rfl rfl ?_; clear hf; refine (known_any _).mono ?_; rintro _ w1 ⟨rfl, hb⟩; replace hB := bel_then hB hb; replace h2 := (hb.block _ (blk_lt h2)).trans h2; clear hb; intro _ hf; refine a_assign hf rfl rfl rfl ?_;clear hf;intro _ hf; refine wpList_nil ?_; simp only [Exit.then, Exit.inBlock]; go_step; refine wp_ret ?_
    try simp only [Exit.then, Exit.inBlock]
    exact c_ret hf rfl rfl ⟨rfl, hB⟩
  | true =>
  refine wp_region_lit ?_; refine a_load33b hf rfl rfl (by exact h2) rfl ?_;clear hf;intro _ hf; refine a_call1 hf e21 rfl rfl rfl ?_; clear hf; refine (fit_as C A1 c1 true hfit _).mono ?_; rintro _ w1 ⟨rfl, hb⟩; replace hB := bel_then hB hb; replace h2 := (hb.block _ (blk_lt h2)).trans h2; clear hb; intro _ hf; refine a_not_ hf rfl rfl rfl ?_;clear hf;intro _ hf; refine a_move hf rfl rfl rfl ?_;clear hf;intro _ hf
  (first | refine a_not hf rfl rfl rfl ?_ | refine a_move hf rfl rfl rfl ?_);clear hf;intro _ hf
  refine a_call2 hf e22 rfl rfl rfl rfl ?_; clear hf; refine (few_as A c l true hfew _ (HL.out.below hB) hll).mono ?_; rintro _ w1 ⟨rfl, hb⟩; replace hB := bel_then hB hb; replace h2 := (hb.block _ (blk_lt h2)).trans h2; clear hb; intro _ hf
  (first | refine a_not hf rfl rfl rfl ?_ | refine a_not_ hf rfl rfl rfl ?_);clear hf;intro _ hf
  (first | refine a_pickT hf rfl rfl rfl rfl ?_ | refine a_pickF hf rfl rfl rfl rfl ?_);clear hf;intro _ hf
  refine a_move hf rfl rfl rfl ?_;clear hf;intro _ hf
  (first | refine a_not hf rfl rfl rfl ?_ | refine a_load33b hf rfl rfl (by exact h2) rfl ?_);clear hf;intro _ hf
  refine a_call1 hf e23 rfl rfl rfl ?_; clear hf; refine (refCode_as C A1 c1 true hcode _ (HC.out.below hB) hn).mono ?_; rintro _ w1 ⟨rfl, hb⟩; replace hB := bel_then hB hb; replace h2 := (hb.block _ (blk_lt h2)).trans h2; clear hb; intro _ hf
  (first | refine a_not hf rfl rfl rfl ?_ | refine a_not_ hf rfl rfl rfl ?_);clear hf;intro _ hf
  (first | refine a_pickT hf rfl rfl rfl rfl ?_ | refine a_pickF hf rfl rfl rfl rfl ?_);clear hf;intro _ hf
  refine wpList_nil ?_; simp only [Exit.then, Exit.inBlock]; go_step; refine c_condF hf rfl ?_; refine wp_skip ?_; simp only [Exit.then, Exit.inBlock]; go_step; refine wp_seq_k ?_; intro _ _; refine wp_region_lit ?_; refine a_load33b hf rfl rfl (by exact h2) rfl ?_;clear hf;intro _ hf; refine a_call1 hf e24 rfl rfl rfl ?_; clear hf; refine (open_crtO C A1 c1 _ (HC.out.below hB) hn hcode).mono ?_; rintro _ w1 ⟨hb, g, rfl, hK⟩; have hs0 := blk_lt h2; replace hK := hK.mono (O' := fun k => w.heap.size < k ∧ k < w1.heap.size) (fun k hk _ => ⟨by omega, hk.2⟩); replace hB := bel_then hB hb; replace h2 := (hb.block _ (blk_lt h2)).trans h2; clear hb; intro _ hf; refine a_move hf rfl rfl rfl ?_;clear hf;intro _ hf; refine a_extract hf rfl rfl rfl rfl ?_;clear hf;intro _ hf; refine a_extract hf rfl rfl rfl rfl ?_;clear hf;intro _ hf; refine a_assign hf rfl rfl rfl ?_;clear hf;intro _ hf; refine a_assign hf rfl rfl rfl ?_;clear hf;intro _ hf; refine wpList_nil ?_; simp only [Exit.then, Exit.inBlock]; go_step; refine wp_seq_k ?_; intro _ _; refine wp_seq_k ?_; intro _ _; refine wp_region_lit ?_; refine a_move hf rfl rfl rfl ?_;clear hf;intro _ hf; refine a_cmp hf rfl rfl rfl rfl rfl rfl rfl ?_;clear hf;intro _ hf; refine a_move hf rfl rfl rfl ?_;clear hf;intro _ hf
  (first | refine a_not hf rfl rfl rfl ?_ | refine a_move hf rfl rfl rfl ?_);clear hf;intro _ hf
  (first | refine a_not hf rfl rfl rfl ?_ | refine a_eqN hf rfl rfl rfl ?_);clear hf;intro _ hf
  (first | refine a_pickT hf rfl rfl rfl rfl ?_ | refine a_pickF hf rfl rfl rfl rfl ?_);clear hf;intro _ hf
  refine wpList_nil ?_; simp only [Exit.then, Exit.inBlock]; go_step; refine c_condF hf rfl ?_; refine wp_skip ?_; simp only [Exit.then, Exit.inBlock]; go_step; refine wp_seq_k ?_; intro _ _; refine wp_region_lit ?_; refine a_assign hf rfl rfl rfl ?_;clear hf;intro _ hf; refine wpList_nil ?_; simp only [Exit.then, Exit.inBlock]; go_step; refine wp_seq_k ?_; intro _ _; refine wp_seq_k ?_; intro _ _; refine wp_region_lit ?_; refine a_assign hf rfl rfl rfl ?_;clear hf;intro _ hf; refine wpList_nil ?_; simp only [Exit.then, Exit.inBlock]; go_step; refine wp_block ?_; refine wp_loop_ghost (fun m fr wr => ∃ (k : Nat) (O : Nat → Prop) (acts : List ActL) (files : List FileL) (v : Value) (cs : List (List Value)), k ≤ l.length ∧ m = l.length - k ∧ Has 101 [] [(8, .int .i64 (k : Int)), (7, v), (5, .pointer (some ⟨g, 0, none⟩)), (2, .pointer (some ⟨w.heap.size, 0, none⟩)), (1, .slice A l.length c)] fr ∧ acts.length ≤ k ∧ ActW w O wr g C acts files v cs ∧ wr.heap[w.heap.size]? = some (.cells #[.int .i64 C.cars, .slice A1 C.arts.length c1, .int .i64 C.win, .int .i64 C.sec, .int .i64 C.fee, .int .i64 C.price] 33 (0, 0)) ∧ Below w.heap.size w wr) l.length ?_ ?_
  · exact ⟨0, _, [], [], _, [], Nat.zero_le _, rfl, ((((((hf.nilOf).cons (d := 1) (hf.at_ 1 _ rfl)).cons (d := 2) (hf.at_ 2 _ rfl)).cons (d := 5) (hf.at_ 5 _ rfl)).cons (d := 7) (hf.at_ 7 _ rfl)).cons (d := 8) (hf.at_ 8 _ rfl)), Nat.le_refl _, ⟨hK, fun k hk => hk.1, World.ownsRow_nil _ _ _ _, ⟨rfl, fun i x hx => by simp at hx⟩, fun j hj => by simp [Value.ownBlock] at hj⟩, h2, hB⟩
  clear hK h2 hB hf hs0
  rintro m fr wr ⟨k, O, acts, files, v, cs, hk', rfl, hf, hak, HW, h2, hB⟩
  by_cases hlt : k < l.length
  · obtain ⟨x, hx⟩ := get_some hlt
    have hxf := hfw.2 x (List.mem_of_getElem? hx); have hl25 := hfw.1; have hi := HW.crt.1
    obtain ⟨A7, c7, rfl, hra⟩ := HW.reads
    have hsw := blk_lt h2
    obtain ⟨ad, B8, d8, rfl, _, ha⟩ := (HL.out.below hB) k x hx
    have ha0 : RI (fun j => j < w.heap.size) wr B8 x.facts := by
      obtain ⟨ad', B8', d8', hh, _, ha'⟩ := (HL.out.mono (D' := fun j => j < w.heap.size) (fun j _ hj => hj)) k x hx
      cases hh
      have e8 := (hB.cell (p := ⟨(ad.add (k * 12)).block, (ad.add (k * 12)).off + 8, none⟩) (lt_of_cell ha'.2.2.2.2.2.2.2.2.1)).trans ha'.2.2.2.2.2.2.2.2.1; have e8' := e8.symm.trans ha.2.2.2.2.2.2.2.2.1
      cases e8'
      exact ha'.2.2.2.2.2.2.2.2.2.2.2.2.2.move (fun j hj _ => hB.block j hj)
    have hcells : ∀ w', Below wr.heap.size wr w' → _ := fun w' hw' => (show ActAt Any w' (ad.add (k * 12)) x B8 d8 from ha.move (hw'.block _ (lt_of_cell ha.1)) (fun k _ hk => hw'.block k hk))
    have hlad : (ad.add (k * 12)).block < w.heap.size := by
      obtain ⟨ad', B8', d8', hh, _, ha'⟩ := (HL.out.mono (D' := fun j => j < w.heap.size) (fun j _ hj => hj)) k x hx
      cases hh
      exact lt_of_cell ha'.1
    have hc8 := ha.2.2.2.2.2.2.2.2.2.2.2.2.1; clear hx; refine wp_seq_k ?_; intro _ _; refine wp_seq_k ?_; intro _ _; refine wp_region_lit ?_; refine a_move hf rfl rfl rfl ?_;clear hf;intro _ hf; refine a_move hf rfl rfl rfl ?_;clear hf;intro _ hf; refine a_len hf rfl rfl rfl rfl ?_;clear hf;intro _ hf; refine a_cmp (b := true) hf rfl rfl rfl rfl rfl (by first | assumption | ((try dsimp only); simp only [bq1, bq2, bq3, bq4, bq5, bq6, bq7] <;> omega)) rfl ?_;clear hf;intro _ hf; refine wpList_nil ?_; simp only [Exit.then, Exit.inBlock]; go_step; refine c_condT hf rfl ?_; refine wp_skip ?_; simp only [Exit.then]; go_step; refine wp_seq_k ?_; intro _ _; refine wp_block ?_; refine wp_seq_k ?_; intro _ _; refine r_quiet (n := 101) (ds := []) (ls := [(8, .int .i64 (k : Int)), (7, .slice A7 acts.length c7), (5, .pointer (some ⟨g, 0, none⟩)), (2, .pointer (some ⟨w.heap.size, 0, none⟩)), (1, .slice (some ad) l.length c)]) (Below wr.heap.size wr) (by kernel_rfl) (by kernel_rfl) (bel_drew (Below.refl _ _)) (((((((hf.nilOf).cons (d := 1) (hf.at_ 1 _ rfl)).cons (d := 2) (hf.at_ 2 _ rfl)).cons (d := 5) (hf.at_ 5 _ rfl)).cons (d := 7) (hf.at_ 7 _ rfl)).cons (d := 8) (hf.at_ 8 _ rfl))) ?_;clear hf;intro _ hf; refine q_load33b hf rfl rfl (by exact fun w' hw' => (hw'.block _ (blk_lt h2)).trans h2) rfl ?_;clear hf;intro _ hf; refine q_move hf rfl rfl rfl ?_;clear hf;intro _ hf; refine q_move hf rfl rfl rfl ?_;clear hf;intro _ hf; refine q_move hf rfl rfl rfl ?_;clear hf;intro _ hf; refine q_index (j := k) hf rfl rfl rfl rfl (by first | rfl | omega) (by omega) rfl ?_;clear hf;intro _ hf; refine q_load43 hf rfl rfl (by exact fun w' hw' => by obtain ⟨g0, g1, g2, g3, g4, g5, g6, g7, g8, g9, g10, g11, _⟩ := hcells w' hw'; exact ⟨g0, g1, g2, g3, g4, g5, g6, g7, g8, g9, g10, g11⟩) rfl ?_;clear hf;intro _ hf; refine q_call3 hf e25 rfl rfl rfl rfl rfl (v := .int .i64 (refusedR C acts x)) (fun w' hw' => (refused_any C A1 c1 acts A7 c7 x B8 d8 w' (HC.out.below (bel_then hB hw')) hn (hra.below hw') (by omega) ((ha.2.2.2.2.2.2.2.2.2.2.2.2.2).below hw') (by omega) hi.minute).mono fun _ _ h => ⟨h.1, bel_then hw' h.2⟩) ?_;clear hf;intro _ hf; refine q_assign hf rfl rfl rfl ?_;clear hf;intro _ hf; refine q_nil ?_; intro w9 hw9; simp only [Exit.then, Exit.inBlock]; go_step; have HW9 := HW.below hw9; have hB9 := bel_then hB hw9; have h29 := (hw9.block _ hsw).trans h2; have hs9 := hw9.size; have ha9 := ha0.move (w' := w9) (fun j hj hl => hw9.block j hl)
    obtain ⟨g0, g1, g2, g3, g4, g5, g6, g7, g8, g9, g10, g11, _⟩ := hcells w9 hw9
    have hEQ := hi.refused (a := x)
    generalize refusedR C acts x = want at *
    refine wp_seq_k ?_; intro _ _; refine wp_region_lit ?_; refine a_move hf rfl rfl rfl ?_;clear hf;intro _ hf; refine a_move hf rfl rfl rfl ?_;clear hf;intro _ hf; refine a_move hf rfl rfl rfl ?_;clear hf;intro _ hf; refine a_index (j := k) hf rfl rfl rfl rfl (by first | rfl | omega) (by omega) rfl ?_;clear hf;intro _ hf; refine a_load43 hf rfl rfl (by exact g0) (by exact g1) (by exact g2) (by exact g3) (by exact g4) (by exact g5) (by exact g6) (by exact g7) (by exact g8) (by exact g9) (by exact g10) (by exact g11) rfl ?_;clear hf;intro _ hf; refine a_call2 hf e26 rfl rfl rfl rfl ?_; clear hf; refine (do_crtO O g C acts files x B8 d8 _ HW9.crt (ha9.mono (fun j hj _ hO => by have := HW9.oge j hO; omega)) hc8 (by omega)).mono ?_; rintro _ w10 ⟨rfl, hM, hK⟩; intro _ hf; refine a_move hf rfl rfl rfl ?_;clear hf;intro _ hf; refine a_extract hf rfl rfl rfl rfl ?_;clear hf;intro _ hf; refine a_extract hf rfl rfl rfl rfl ?_;clear hf;intro _ hf; refine a_assign hf rfl rfl rfl ?_;clear hf;intro _ hf; refine a_assign hf rfl rfl rfl ?_;clear hf;intro _ hf; refine wpList_nil ?_; simp only [Exit.then, Exit.inBlock]; go_step
    obtain ⟨hK10, hO10, hown10, hare10, hfar10⟩ := HW9.did hM hK (by omega)
    have hB10 := mod_lt hB9 hM HW9.oge; have hnO : ∀ j, j ≤ w.heap.size → ¬ O j := fun j hj hO => by have := HW9.oge j hO; omega
    have h210 := (hM.block _ (blk_lt h29) (hnO _ (Nat.le_refl _))).trans h29; have hkp : ∀ {p : Addr} {u : Value}, p.block < w.heap.size → w9.cell? p = some u → w10.cell? p = some u := fun hp hu => (World.cell?_of_block (hM.block _ (lt_of_cell hu) (hnO _ (Nat.le_of_lt hp)))).trans hu; replace g0 := hkp hlad g0; replace g1 := hkp (p := ⟨_, _, none⟩) hlad g1; replace g2 := hkp (p := ⟨_, _, none⟩) hlad g2; replace g3 := hkp (p := ⟨_, _, none⟩) hlad g3; replace g4 := hkp (p := ⟨_, _, none⟩) hlad g4; replace g5 := hkp (p := ⟨_, _, none⟩) hlad g5; replace g6 := hkp (p := ⟨_, _, none⟩) hlad g6; replace g7 := hkp (p := ⟨_, _, none⟩) hlad g7; replace g8 := hkp (p := ⟨_, _, none⟩) hlad g8; replace g9 := hkp (p := ⟨_, _, none⟩) hlad g9; replace g10 := hkp (p := ⟨_, _, none⟩) hlad g10; replace g11 := hkp (p := ⟨_, _, none⟩) hlad g11; have ha10 := ha9.move (w' := w10) (fun j hj hl => hM.block j hl (hnO j (Nat.le_of_lt hj))); have hs10 := hM.size; have hso10 := hB10.size; have HD := Aside.mk (show doActs C acts files x = match doR C acts files x with | .ok _ => acts ++ [x] | .error _ => acts from rfl)
    generalize hO' : grow O w9 w10 = O10 at *
    clear hkp HW HW9 hM hK hcells hra hB9 h29 ha9 ha0 ha hO'; refine wp_seq_k ?_; intro _ _; refine wp_seq_k ?_; intro _ _; refine wp_region_lit ?_; refine a_move hf rfl rfl rfl ?_;clear hf;intro _ hf; refine a_move hf rfl rfl rfl ?_;clear hf;intro _ hf; refine a_cmp (b := false) hf rfl rfl rfl rfl rfl (by rw [hEQ]; simp) rfl ?_;clear hf;intro _ hf; refine wpList_nil ?_; simp only [Exit.then, Exit.inBlock]; go_step; refine c_condF hf rfl ?_; refine wp_skip ?_; simp only [Exit.then, Exit.inBlock]; go_step; refine wp_seq_k ?_; intro _ _; refine wp_region_lit ?_; refine a_assign hf rfl rfl rfl ?_;clear hf;intro _ hf; refine wpList_nil ?_; simp only [Exit.then, Exit.inBlock]; go_step; refine wp_seq_k ?_; intro _ _; refine c_cut (fun a' w' => ∃ (num : Int) (O' : Nat → Prop) (acts' : List ActL) (files' : List FileL) (v' : Value) (cs' : List (List Value)), Has 101 [] [(12, .int .i64 num), (10, .int .i64 num), (8, .int .i64 (k : Int)), (7, v'), (5, .pointer (some ⟨g, 0, none⟩)), (2, .pointer (some ⟨w.heap.size, 0, none⟩)), (1, .slice (some ad) l.length c)] a' ∧ acts'.length ≤ k + 1 ∧ ActW w O' w' g C acts' files' v' cs' ∧ w'.heap[w.heap.size]? = some (.cells #[.int .i64 C.cars, .slice A1 C.arts.length c1, .int .i64 C.win, .int .i64 C.sec, .int .i64 C.fee, .int .i64 C.price] 33 (0, 0)) ∧ Below w.heap.size w w') ?_ ?_
    · cases hd : doR C acts files x with
      | error er =>
        have her := doR_err hd; have hw0 : ¬ want = 0 := by rw [hEQ, hd]; exact her
        have hfd : doFiles C acts files x = files := by simp [doFiles, hd]
        have had : doActs C acts files x = acts := by rw [HD.out, hd]
        rw [hd] at hf; rw [hfd, had] at hK10; refine wp_seq_k ?_; intro _ _; refine wp_region_lit ?_; refine a_move hf rfl rfl rfl ?_;clear hf;intro _ hf; refine a_cmp (b := false) hf rfl rfl rfl rfl rfl (by first | assumption | ((try dsimp only); simp only [bq1, bq2, bq3, bq4, bq5, bq6, bq7] <;> omega)) rfl ?_;clear hf;intro _ hf; refine wpList_nil ?_; simp only [Exit.then, Exit.inBlock]; go_step; refine c_condF hf rfl ?_; refine wp_skip ?_; simp only [Exit.then, Exit.inBlock]; exact ⟨(by trivial), 0, _, acts, files, _, cs, ((((((((hf.nilOf).cons (d := 1) (hf.at_ 1 _ rfl)).cons (d := 2) (hf.at_ 2 _ rfl)).cons (d := 5) (hf.at_ 5 _ rfl)).cons (d := 7) (hf.at_ 7 _ rfl)).cons (d := 8) (hf.at_ 8 _ rfl)).cons (d := 10) (hf.at_ 10 _ rfl)).cons (d := 12) (hf.at_ 12 _ rfl)), by omega, ⟨hK10, hO10, hown10, hare10, hfar10⟩, h210, hB10⟩
      | ok n =>
        have hw0 : want = 0 := by rw [hEQ, hd]; rfl
        have hfd : doFiles C acts files x = endFiles acts files x n := by simp [doFiles, hd]
        have had : doActs C acts files x = acts ++ [x] := by rw [HD.out, hd]
        have hnum := do_num hi hd; rw [hd] at hf; rw [hfd, had] at hK10; refine wp_seq_k ?_; intro _ _; refine wp_region_lit ?_; refine a_move hf rfl rfl rfl ?_;clear hf;intro _ hf; refine a_cmp (b := true) hf rfl rfl rfl rfl rfl (by first | assumption | ((try dsimp only); simp only [bq1, bq2, bq3, bq4, bq5, bq6, bq7] <;> omega)) rfl ?_;clear hf;intro _ hf; refine wpList_nil ?_; simp only [Exit.then, Exit.inBlock]; go_step; refine c_condT hf rfl ?_; refine wp_seq_k ?_; intro _ _; refine wp_region_lit ?_; refine a_move hf rfl rfl rfl ?_;clear hf;intro _ hf; refine a_move hf rfl rfl rfl ?_;clear hf;intro _ hf; refine a_move hf rfl rfl rfl ?_;clear hf;intro _ hf; refine a_index (j := k) hf rfl rfl rfl rfl (by first | rfl | omega) (by omega) rfl ?_;clear hf;intro _ hf; refine a_load43 hf rfl rfl (by exact g0) (by exact g1) (by exact g2) (by exact g3) (by exact g4) (by exact g5) (by exact g6) (by exact g7) (by exact g8) (by exact g9) (by exact g10) (by exact g11) rfl ?_;clear hf;intro _ hf; refine a_one34 hf rfl rfl rfl ?_;clear hf;intro _ hf; refine wpList_append_lies _ rfl _ _ 34 rfl w.heap.size 43 i43 _ 12 112 Try.underlying34 hi43 hz0 hz1 hz2 rfl (by decide) (.slice A7 acts.length c7) acts.length cs.flatten (hf.at_ 65 _ rfl) (own_below hown10 (bel_alloc (Below.refl _ w10) _)) ⟨w10.heap.size, 0, none⟩ 1 1 (actCells x B8 d8) (hf.at_ 70 _ rfl) rfl (World.news_of_block (cs := #[.int .i64 x.kind, .int .i64 x.minute, .int .i64 x.paper, .int .i64 x.case_, .int .i64 x.by_, .int .i64 x.against, .int .i64 x.art, .int .i64 x.at_, .slice B8 x.facts.length d8, .int .i64 x.paid, .bool x.up, .int .i64 x.pen]) (t := 43) (fr := (0, 0)) (heap_alloc_new w10 _)) (actCells_one x B8 d8) (by decide) (by simp only [maxLen]; omega) (by omega) (by simp; omega) _ rfl ?_; intro g8' cap8 w8 hown8 hgrow8 hat8 hlt8; have hM8 : Mod (fun q => (Value.slice A7 acts.length c7).ownBlock = some q) w10 w8 := (Mod.refl.alloc _).grown hgrow8 (fun q hq => .inl hq); have hB8 : Below w.heap.size w w8 := (bel_alloc hB10 _).grown hgrow8 (by simp; omega) (own_base hown10); replace hf := hf.put (d := 71) (v := .slice (some ⟨g8', 0, none⟩) (acts.length + 1) cap8) rfl; refine a_assign hf rfl rfl rfl ?_;clear hf;intro _ hf; refine wpList_nil ?_; simp only [Exit.then, Exit.inBlock]; have hge := own_base hown10
        have hnr : ∀ q, q ≤ w.heap.size → ¬ (Value.slice A7 acts.length c7).ownBlock = some q ∨ q = w.heap.size := fun q hq => by
          by_cases h : q = w.heap.size
          · exact .inr h
          · exact .inl (fun e => by have := hge q e; omega)
        have hbox : ¬ (Value.slice A7 acts.length c7).ownBlock = some w.heap.size := fun e => own_ne hown10 h210 (by decide) w.heap.size e rfl
        have hnr' : ∀ q, q ≤ w.heap.size → ¬ (Value.slice A7 acts.length c7).ownBlock = some q := fun q hq e => by
          rcases hnr q hq with h | h
          · exact h e
          · subst h; exact hbox e
        have h28 := (hM8.block _ (blk_lt h210) hbox).trans h210; have hkp : ∀ {p : Addr} {u : Value}, p.block < w.heap.size → w10.cell? p = some u → w8.cell? p = some u := fun hp hu => (World.cell?_of_block (hM8.block _ (lt_of_cell hu) (hnr' _ (Nat.le_of_lt hp)))).trans hu; have hK8 : CrtO O10 w8 g C (acts ++ [x]) (endFiles acts files x n) := hK10.keep hM8 (fun q hO hq => hfar10 q hq hO); have hlt10 : CrtO (fun q => O10 q ∧ q < w10.heap.size) w8 g C (acts ++ [x]) (endFiles acts files x n) := (hK10.mono (O' := fun q => O10 q ∧ q < w10.heap.size) (fun q hq hl => ⟨hq, hl⟩)).keep hM8 (fun q hO hq => hfar10 q hq hO.1)
        have HW8 : ActW w (fun q => O10 q ∧ q < w10.heap.size) w8 g C (acts ++ [x]) (endFiles acts files x n) (.slice (some ⟨g8', 0, none⟩) (acts.length + 1) cap8) (cs ++ [actCells x B8 d8]) := by
          refine ⟨hlt10, fun q hq => hO10 q hq.1, by rw [List.flatten_append, List.flatten_singleton, List.length_append]; exact hown8, (hare10.move (fun q hq hl => hM8.block q hl (hnr' q (Nat.le_of_lt hq)))).snoc x B8 d8 hc8 (ha10.move (fun q hq hl => hM8.block q hl (hnr' q (Nat.le_of_lt hq)))), fun q hq hO => ?_⟩; have hgq : g8' = q := by simpa [Value.ownBlock] using hq
          subst hgq
          rcases hat8 with e | e
          · exact hfar10 g8' e hO.1
          · simp at e; omega
        replace g0 := hkp hlad g0; replace g3 := hkp (p := ⟨_, _, none⟩) hlad g3; clear hkp hK8 hlt10 hown8 hgrow8 hat8 hlt8 g1 g2 g4 g5 g6 g7 g8 g9 g10 g11; go_step; refine wp_seq_k ?_; intro _ _; refine wp_region_lit ?_; refine a_move hf rfl rfl rfl ?_;clear hf;intro _ hf; refine a_move hf rfl rfl rfl ?_;clear hf;intro _ hf; refine a_index (j := k) hf rfl rfl rfl rfl (by first | rfl | omega) (by omega) rfl ?_;clear hf;intro _ hf; refine a_field hf rfl rfl rfl rfl ?_;clear hf;intro _ hf; refine a_load hf rfl rfl rfl (by exact g0) rfl ?_;clear hf;intro _ hf; refine wpList_nil ?_; simp only [Exit.then, Exit.inBlock]; go_step; refine wp_block ?_
        rcases hnum with ⟨k1, hn12⟩ | ⟨k2, hn12⟩ | ⟨k1, k2, hn12⟩
        · refine wp_seq_k ?_
          intro _ _; refine wp_region_lit ?_; refine a_cmp (b := true) hf rfl rfl rfl rfl rfl (by first | assumption | ((try dsimp only); simp only [bq1, bq2, bq3, bq4, bq5, bq6, bq7] <;> omega)) rfl ?_;clear hf;intro _ hf; refine a_assign hf rfl rfl rfl ?_;clear hf;intro _ hf; refine wpList_nil ?_; simp only [Exit.then, Exit.inBlock]; go_step; refine c_condT hf rfl ?_; refine wp_region_lit ?_; refine a_assign hf rfl rfl rfl ?_;clear hf;intro _ hf; refine wpList_nil ?_; simp only [Exit.then, Exit.inBlock]
          try simp only [Exit.then, Exit.inBlock]
          exact ⟨(by trivial), n, _, _, _, _, _, ((((((((hf.nilOf).cons (d := 1) (hf.at_ 1 _ rfl)).cons (d := 2) (hf.at_ 2 _ rfl)).cons (d := 5) (hf.at_ 5 _ rfl)).cons (d := 7) (hf.at_ 7 _ rfl)).cons (d := 8) (hf.at_ 8 _ rfl)).cons (d := 10) (hf.at_ 10 _ rfl))).cons (d := 12) ((hf.at_ 12 _ rfl).trans (by rw [hn12])), by simp; omega, HW8, h28, hB8⟩
        · have k1 : ¬ x.kind = 1 := by omega
          obtain ⟨A9, c9, e9, hr8⟩ := HW8.reads
          rw [show (Value.slice (some ⟨g8', 0, none⟩) (acts.length + 1) cap8) = .slice (some ⟨g8', 0, none⟩) (acts ++ [x]).length cap8 by simp] at hf; simp only [Value.slice.injEq] at e9
          obtain ⟨rfl, _, rfl⟩ := e9
          refine wp_seq_k ?_; intro _ _; refine wp_region_lit ?_; refine a_cmp (b := false) hf rfl rfl rfl rfl rfl (by first | assumption | ((try dsimp only); simp only [bq1, bq2, bq3, bq4, bq5, bq6, bq7] <;> omega)) rfl ?_;clear hf;intro _ hf; refine a_assign hf rfl rfl rfl ?_;clear hf;intro _ hf; refine wpList_nil ?_; simp only [Exit.then, Exit.inBlock]; go_step; refine c_condF hf rfl ?_; refine wp_seq_k ?_; intro _ _; refine wp_region_lit ?_; refine a_cmp (b := true) hf rfl rfl rfl rfl rfl (by first | assumption | ((try dsimp only); simp only [bq1, bq2, bq3, bq4, bq5, bq6, bq7] <;> omega)) rfl ?_;clear hf;intro _ hf; refine a_assign hf rfl rfl rfl ?_;clear hf;intro _ hf; refine wpList_nil ?_; simp only [Exit.then, Exit.inBlock]; go_step; refine c_condT hf rfl ?_; refine wp_region_lit ?_; refine a_move hf rfl rfl rfl ?_;clear hf;intro _ hf; refine a_call1 hf e27 rfl rfl rfl ?_; clear hf; refine (refProtests_any (some ⟨g8', 0, none⟩) cap8 (acts ++ [x]) _ hr8 (by simp; omega)).mono ?_; rintro _ w11 ⟨A9, c9, rfl, hc9, _, hb⟩; intro _ hf; refine a_len hf rfl rfl rfl rfl ?_;clear hf;intro _ hf; refine a_ar hf rfl rfl rfl rfl (by have hpl := prot_len (acts ++ [x]) 0; simp at hpl; (try dsimp only); omega) rfl ?_;clear hf;intro _ hf; refine a_assign hf rfl rfl rfl ?_;clear hf;intro _ hf; refine wpList_nil ?_; simp only [Exit.then, Exit.inBlock]; have h282 := (hb.block _ (blk_lt h28)).trans h28
          try simp only [Exit.then, Exit.inBlock]
          exact ⟨(by trivial), n, _, _, _, _, _, ((((((((hf.nilOf).cons (d := 1) (hf.at_ 1 _ rfl)).cons (d := 2) (hf.at_ 2 _ rfl)).cons (d := 5) (hf.at_ 5 _ rfl)).cons (d := 7) (hf.at_ 7 _ rfl)).cons (d := 8) (hf.at_ 8 _ rfl)).cons (d := 10) (hf.at_ 10 _ rfl))).cons (d := 12) ((hf.at_ 12 _ rfl).trans (by rw [hn12])), by simp; omega, (show ActW w _ w11 g C (acts ++ [x]) (endFiles acts files x n) _ _ from by have := HW8.below hb; simpa using this), h282, bel_then hB8 hb⟩
        · refine wp_seq_k ?_
          intro _ _; refine wp_region_lit ?_; refine a_cmp (b := false) hf rfl rfl rfl rfl rfl (by first | assumption | ((try dsimp only); simp only [bq1, bq2, bq3, bq4, bq5, bq6, bq7] <;> omega)) rfl ?_;clear hf;intro _ hf; refine a_assign hf rfl rfl rfl ?_;clear hf;intro _ hf; refine wpList_nil ?_; simp only [Exit.then, Exit.inBlock]; go_step; refine c_condF hf rfl ?_; refine wp_seq_k ?_; intro _ _; refine wp_region_lit ?_; refine a_cmp (b := false) hf rfl rfl rfl rfl rfl (by first | assumption | ((try dsimp only); simp only [bq1, bq2, bq3, bq4, bq5, bq6, bq7] <;> omega)) rfl ?_;clear hf;intro _ hf; refine a_assign hf rfl rfl rfl ?_;clear hf;intro _ hf; refine wpList_nil ?_; simp only [Exit.then, Exit.inBlock]; go_step; refine c_condF hf rfl ?_; refine wp_region_lit ?_; refine a_move hf rfl rfl rfl ?_;clear hf;intro _ hf; refine a_move hf rfl rfl rfl ?_;clear hf;intro _ hf; refine a_index (j := k) hf rfl rfl rfl rfl (by first | rfl | omega) (by omega) rfl ?_;clear hf;intro _ hf; refine a_field hf rfl rfl rfl rfl ?_;clear hf;intro _ hf; refine a_load hf rfl rfl rfl (by exact g3) rfl ?_;clear hf;intro _ hf; refine a_assign hf rfl rfl rfl ?_;clear hf;intro _ hf; refine wpList_nil ?_; simp only [Exit.then, Exit.inBlock]
          try simp only [Exit.then, Exit.inBlock]
          exact ⟨(by trivial), n, _, _, _, _, _, ((((((((hf.nilOf).cons (d := 1) (hf.at_ 1 _ rfl)).cons (d := 2) (hf.at_ 2 _ rfl)).cons (d := 5) (hf.at_ 5 _ rfl)).cons (d := 7) (hf.at_ 7 _ rfl)).cons (d := 8) (hf.at_ 8 _ rfl)).cons (d := 10) (hf.at_ 10 _ rfl))).cons (d := 12) ((hf.at_ 12 _ rfl).trans (by rw [hn12])), by simp; omega, HW8, h28, hB8⟩
    rintro _ w12 ⟨num, O', acts', files', v', cs', hf, hlen', HW, h2', hB'⟩
    simp only [Exit.then]; go_step; clear g0 g1 g2 g3 g4 g5 g6 g7 g8 g9 g10 g11 hK10 hO10 hown10 hare10 hfar10 h210 hB10 ha10
    obtain ⟨A5, c5, rfl, hr5⟩ := HW.reads
    have hi' := HW.crt.1; refine wp_seq_k ?_; intro _ _; refine wp_region_lit ?_; refine a_move hf rfl rfl rfl ?_;clear hf;intro _ hf; refine a_move hf rfl rfl rfl ?_;clear hf;intro _ hf; refine a_cmp (b := false) hf rfl rfl rfl rfl rfl (by simp) rfl ?_;clear hf;intro _ hf; refine a_move hf rfl rfl rfl ?_;clear hf;intro _ hf
    (first | refine a_not hf rfl rfl rfl ?_ | refine a_move hf rfl rfl rfl ?_);clear hf;intro _ hf
    refine a_call1 hf e29 rfl rfl rfl ?_; clear hf; refine (acts_any g C acts' files' _ HW.crt.reads hi'.facts).mono ?_; rintro _ w13 ⟨A6, c6, rfl, _, hr6, hb⟩; intro _ hf
    (first | refine a_not hf rfl rfl rfl ?_ | refine a_move hf rfl rfl rfl ?_);clear hf;intro _ hf
    refine a_call2 hf e28 rfl rfl rfl rfl ?_; clear hf; refine (sameActs_eq A6 A5 c6 c5 acts' _ hr6 (hr5.below hb) (by have := hi'.len; omega) (fun y hy => by have := hi'.facts y hy; omega)).mono ?_; rintro _ w14 ⟨rfl, hb2⟩; intro _ hf
    (first | refine a_not hf rfl rfl rfl ?_ | refine a_not_ hf rfl rfl rfl ?_);clear hf;intro _ hf
    (first | refine a_pickT hf rfl rfl rfl rfl ?_ | refine a_pickF hf rfl rfl rfl rfl ?_);clear hf;intro _ hf
    refine wpList_nil ?_; simp only [Exit.then, Exit.inBlock]; go_step; refine c_condF hf rfl ?_; refine wp_skip ?_; simp only [Exit.then, Exit.inBlock]; go_step; refine wp_region_lit ?_; refine a_move hf rfl rfl rfl ?_;clear hf;intro _ hf; refine a_ar hf rfl rfl rfl rfl (by (try dsimp only); omega) rfl ?_;clear hf;intro _ hf; refine a_assign hf rfl rfl rfl ?_;clear hf;intro _ hf; refine wpList_nil ?_; simp only [Exit.then, Exit.inBlock]; have hbb := bel_then hb hb2; exact ⟨l.length - (k + 1), by omega, k + 1, O', acts', files', _, cs', by omega, rfl, ((((((hf.nilOf).cons (d := 1) (hf.at_ 1 _ rfl)).cons (d := 2) (hf.at_ 2 _ rfl)).cons (d := 5) (hf.at_ 5 _ rfl)).cons (d := 7) (hf.at_ 7 _ rfl)).cons (d := 8) (hf.at_ 8 _ rfl)), hlen', HW.below hbb, (hbb.block _ (blk_lt h2')).trans h2', bel_then hB' hbb⟩
  · have hke : k = l.length := by omega
    refine wp_seq_k ?_; intro _ _; refine wp_seq_k ?_; intro _ _; refine wp_region_lit ?_; refine a_move hf rfl rfl rfl ?_;clear hf;intro _ hf; refine a_move hf rfl rfl rfl ?_;clear hf;intro _ hf; refine a_len hf rfl rfl rfl rfl ?_;clear hf;intro _ hf; refine a_cmp (b := false) hf rfl rfl rfl rfl rfl (by first | assumption | ((try dsimp only); simp only [bq1, bq2, bq3, bq4, bq5, bq6, bq7] <;> omega)) rfl ?_;clear hf;intro _ hf; refine wpList_nil ?_; simp only [Exit.then, Exit.inBlock]; go_step; refine c_condF hf rfl ?_; refine wp_exit ?_; simp only [Exit.then, Exit.inBlock, ↓reduceIte]; go_step; refine wp_seq_k ?_; intro _ _; refine wp_region_lit ?_; refine a_call0 hf e16 rfl rfl ?_; clear hf; refine (known_any _).mono ?_; rintro _ w1 ⟨rfl, hb⟩; replace hB := bel_then hB hb; replace h2 := (hb.block _ (blk_lt h2)).trans h2; clear hb; intro _ hf; refine a_assign hf rfl rfl rfl ?_;clear hf;intro _ hf; refine wpList_nil ?_; simp only [Exit.then, Exit.inBlock]; go_step; refine wp_ret ?_
    try simp only [Exit.then, Exit.inBlock]
    exact c_ret hf rfl rfl ⟨rfl, hB⟩
end Go.Proofs.Ytpadgcomncljmaa.A
/- Which acts are done and which are refused: the law AppealActs is true for every code and every list of acts, and leaves its arguments as they read. No condition. -/
namespace Go.Proofs.Ytpadgcomncljmaa.A
open Go.ChangeShapes Go.WideShapes Go.ChangeAt Go.RowKit
theorem own_AppealActs : ownKnob Try.prog.godebug = none := by kernel_rfl
set_option maxRecDepth 100000 in
theorem lifted_AppealActs (os : Os) (started : os.Started) (H : Type) (enc : TypeId × Value → H) :
    ReturnsInHanded {} Try.checked os 4 .any (Rows.appealActsSpec.pre6 enc Try.prog Try.f4 Rows.appealActsRow.domain false) (Rows.appealActsSpec.post enc Try.prog Try.f4 false true false false) := by
  refine returnsInHanded_of_change (C := Try.checked) own_AppealActs started (by kernel_rfl) Try.func4
    (ChangeSpec.witness6 (enc := enc) (C := Try.checked) false ⟨#[], #[.agg #[.int .i64 0, .slice none 0 0, .int .i64 0, .int .i64 0, .int .i64 0, .int .i64 0], .slice none 0 0], []⟩ 8 (by kernel_rfl) (by kernel_rfl) (by kernel_rfl) (by kernel_rfl)) ?_
  intro W base args ds gs before hval0 hW hcnd _; have hval : ∀ (j : Nat) t v, Try.f4.params[j]? = some t → args[j]? = some v → Value.okWide Try.prog W .any base t v := hval0; have hW' := hW
  obtain ⟨p, q, hA0, hV, rfl, hfz, hnd⟩ := hW
  have hA : DataW.TrodAll enc Try.prog W 0 (fun _ => true) true Try.f4.params.toList args.toList ds p := hA0; rw [Try.params4] at hA hval
  obtain ⟨v0, vs0, d0, ds0, p0, q0, hargs, rfl, rfl, h0, r0⟩ := trodAll_cons hA
  obtain ⟨v1, vs1, d1, ds1, p1, q1, rfl, rfl, rfl, h1, r1⟩ := trodAll_cons r0
  obtain ⟨rfl, rfl, rfl⟩ := trodAll_nil r1
  obtain rfl : args = #[v0, v1] := by cases args; simp_all
  obtain ⟨rfl, rfl⟩ := trodVars_none hV
  clear hA0 hval0; simp only [List.append_nil] at hW'; have hlt : ∀ x ∈ p0 ++ p1, x.block < W.heap.size := fun x hx => by simpa using hW'.lt x (by simpa using hx)
  have hk0 := fun (W' : World) (hn : Below W.heap.size W W') => Below.trod laidOut (by kernel_rfl) (of_decide_eq_true (by kernel_rfl)) h0 hn (fun x hx => hlt x (by simp [hx])); have hk1 := fun (W' : World) (hn : Below W.heap.size W W') => Below.trod laidOut (by kernel_rfl) (of_decide_eq_true (by kernel_rfl)) h1 hn (fun x hx => hlt x (by simp [hx]))
  obtain ⟨C0, A0, c0, ra0, l0, m0, f0⟩ := arg33 (hval 0 33 v0 rfl rfl) h0
  subst ra0
  obtain ⟨A1, xs1, c1, ra1, l1, m1, f1⟩ := arg34 (hval 1 34 v1 rfl rfl) h1
  subst ra1
  refine (walk_AppealActs C0 A0 c0 A1 xs1 c1 W l0 m0 f0 l1 m1 f1).mono fun e W' ⟨he, hb⟩ => ?_
  subst he
  exact ⟨_, rfl, [d0, d1], [], _, [], _, [], hW', trodAll_cons_mk (shut_bool Try.underlying4 _) trodAll_mk0, trodAll_cons_mk (hk0 W' hb) (trodAll_cons_mk (hk1 W' hb) trodAll_mk0), rfl, hb.frame _, fun h => by cases h⟩
theorem over_AppealActs : Rows.appealActsRow.holds Try.pinned (OpenSpec.ofChange Rows.appealActsSpec) :=
  OpenClaim.holds_of_wide 4 Try.f4 rfl rfl rfl rfl rfl rfl rfl ⟨rfl, rfl, rfl, rfl, rfl⟩ rfl rfl rfl rfl rfl (by kernel_rfl) Try.func4 (by kernel_rfl)
    (of_decide_eq_true (by kernel_rfl)) (by unfold Func.isWrapper; first | (rw [if_pos (by decide +kernel)]; kernel_rfl) | (rw [if_neg (by decide +kernel)]; exact ⟨rfl, rfl⟩))
    (fun os started H enc _ => lifted_AppealActs os started H enc)
end Go.Proofs.Ytpadgcomncljmaa.A
namespace Go.Proofs.Ytpadgcomncljmaa
theorem appealActs_holds : Rows.AppealActsSaid := A.over_AppealActs
#print axioms appealActs_holds
end Go.Proofs.Ytpadgcomncljmaa
