/- The version of an article: as the program says it, as the reference says it. -/
import Derived.Test.YtpadgcomncljmaaStatesZ5
set_option linter.all false
namespace Go.Proofs.Ytpadgcomncljmaa.A
open Go.RowKit
def actEq (a b : ActL) : Bool:=(a.kind == b.kind) && (a.minute == b.minute) && (a.paper == b.paper) && (a.case_ == b.case_) && (a.by_ == b.by_) && (a.against == b.against) && (a.art == b.art) && (a.at_ == b.at_) && (a.paid == b.paid) && (a.up == b.up) && (a.pen == b.pen) && eqB a.facts b.facts
end Go.Proofs.Ytpadgcomncljmaa.A
/- Equal acts,part B5. -/
namespace Go.Proofs.Ytpadgcomncljmaa.A
open Go.RowKit
set_option maxHeartbeats 2000000 in
set_option maxRecDepth 100000 in
theorem sameAct_0 (A B : Option Addr) (ca cb : Nat) (a b : ActL) (w : World) (ha : RI Any w A a.facts) (hb : RI Any w B b.facts) (hc : a.facts.length ≤ 9223372036854775807) (h0 : (a.kind == b.kind) = false) :
    Calls Try.prog 71 #[.agg #[.int .i64 a.kind,.int .i64 a.minute,.int .i64 a.paper,.int .i64 a.case_,.int .i64 a.by_,.int .i64 a.against,.int .i64 a.art,.int .i64 a.at_,.slice A a.facts.length ca,.int .i64 a.paid,.bool a.up,.int .i64 a.pen],.agg #[.int .i64 b.kind,.int .i64 b.minute,.int .i64 b.paper,.int .i64 b.case_,.int .i64 b.by_,.int .i64 b.against,.int .i64 b.art,.int .i64 b.at_,.slice B b.facts.length cb,.int .i64 b.paid,.bool b.up,.int .i64 b.pen]] w fun e w' => e = .returned (.bool (actEq a b)) ∧ Below w.heap.size w w':=by
  have HQ:=Aside.mk (show actEq a b = false by simp only [actEq,h0,Bool.true_and,Bool.false_and])
  go_enter Try.func71,Try.ntmps71
  go_wp2
  go_ret
  exact ⟨ret_eq (by rw [HQ.out];rfl),bel_alloc (bel_alloc (Below.refl _ _) _) _⟩
set_option maxHeartbeats 2000000 in
set_option maxRecDepth 100000 in
theorem sameAct_1 (A B : Option Addr) (ca cb : Nat) (a b : ActL) (w : World) (ha : RI Any w A a.facts) (hb : RI Any w B b.facts) (hc : a.facts.length ≤ 9223372036854775807) (h0 : (a.kind == b.kind) = true) (h1 : (a.minute == b.minute) = false) :
    Calls Try.prog 71 #[.agg #[.int .i64 a.kind,.int .i64 a.minute,.int .i64 a.paper,.int .i64 a.case_,.int .i64 a.by_,.int .i64 a.against,.int .i64 a.art,.int .i64 a.at_,.slice A a.facts.length ca,.int .i64 a.paid,.bool a.up,.int .i64 a.pen],.agg #[.int .i64 b.kind,.int .i64 b.minute,.int .i64 b.paper,.int .i64 b.case_,.int .i64 b.by_,.int .i64 b.against,.int .i64 b.art,.int .i64 b.at_,.slice B b.facts.length cb,.int .i64 b.paid,.bool b.up,.int .i64 b.pen]] w fun e w' => e = .returned (.bool (actEq a b)) ∧ Below w.heap.size w w':=by
  have HQ:=Aside.mk (show actEq a b = false by simp only [actEq,h0,h1,Bool.true_and,Bool.false_and])
  go_enter Try.func71,Try.ntmps71
  go_wp2
  go_ret
  exact ⟨ret_eq (by rw [HQ.out];rfl),bel_alloc (bel_alloc (Below.refl _ _) _) _⟩
set_option maxHeartbeats 2000000 in
set_option maxRecDepth 100000 in
theorem sameAct_2 (A B : Option Addr) (ca cb : Nat) (a b : ActL) (w : World) (ha : RI Any w A a.facts) (hb : RI Any w B b.facts) (hc : a.facts.length ≤ 9223372036854775807) (h0 : (a.kind == b.kind) = true) (h1 : (a.minute == b.minute) = true) (h2 : (a.paper == b.paper) = false) :
    Calls Try.prog 71 #[.agg #[.int .i64 a.kind,.int .i64 a.minute,.int .i64 a.paper,.int .i64 a.case_,.int .i64 a.by_,.int .i64 a.against,.int .i64 a.art,.int .i64 a.at_,.slice A a.facts.length ca,.int .i64 a.paid,.bool a.up,.int .i64 a.pen],.agg #[.int .i64 b.kind,.int .i64 b.minute,.int .i64 b.paper,.int .i64 b.case_,.int .i64 b.by_,.int .i64 b.against,.int .i64 b.art,.int .i64 b.at_,.slice B b.facts.length cb,.int .i64 b.paid,.bool b.up,.int .i64 b.pen]] w fun e w' => e = .returned (.bool (actEq a b)) ∧ Below w.heap.size w w':=by
  have HQ:=Aside.mk (show actEq a b = false by simp only [actEq,h0,h1,h2,Bool.true_and,Bool.false_and])
  go_enter Try.func71,Try.ntmps71
  go_wp2
  go_ret
  exact ⟨ret_eq (by rw [HQ.out];rfl),bel_alloc (bel_alloc (Below.refl _ _) _) _⟩
set_option maxHeartbeats 2000000 in
set_option maxRecDepth 100000 in
theorem sameAct_3 (A B : Option Addr) (ca cb : Nat) (a b : ActL) (w : World) (ha : RI Any w A a.facts) (hb : RI Any w B b.facts) (hc : a.facts.length ≤ 9223372036854775807) (h0 : (a.kind == b.kind) = true) (h1 : (a.minute == b.minute) = true) (h2 : (a.paper == b.paper) = true) (h3 : (a.case_ == b.case_) = false) :
    Calls Try.prog 71 #[.agg #[.int .i64 a.kind,.int .i64 a.minute,.int .i64 a.paper,.int .i64 a.case_,.int .i64 a.by_,.int .i64 a.against,.int .i64 a.art,.int .i64 a.at_,.slice A a.facts.length ca,.int .i64 a.paid,.bool a.up,.int .i64 a.pen],.agg #[.int .i64 b.kind,.int .i64 b.minute,.int .i64 b.paper,.int .i64 b.case_,.int .i64 b.by_,.int .i64 b.against,.int .i64 b.art,.int .i64 b.at_,.slice B b.facts.length cb,.int .i64 b.paid,.bool b.up,.int .i64 b.pen]] w fun e w' => e = .returned (.bool (actEq a b)) ∧ Below w.heap.size w w':=by
  have HQ:=Aside.mk (show actEq a b = false by simp only [actEq,h0,h1,h2,h3,Bool.true_and,Bool.false_and])
  go_enter Try.func71,Try.ntmps71
  go_wp2
  go_ret
  exact ⟨ret_eq (by rw [HQ.out];rfl),bel_alloc (bel_alloc (Below.refl _ _) _) _⟩
end Go.Proofs.Ytpadgcomncljmaa.A
/- Equal acts,part B6. -/
namespace Go.Proofs.Ytpadgcomncljmaa.A
open Go.RowKit
set_option maxHeartbeats 2000000 in
set_option maxRecDepth 100000 in
theorem sameAct_4 (A B : Option Addr) (ca cb : Nat) (a b : ActL) (w : World) (ha : RI Any w A a.facts) (hb : RI Any w B b.facts) (hc : a.facts.length ≤ 9223372036854775807) (h0 : (a.kind == b.kind) = true) (h1 : (a.minute == b.minute) = true) (h2 : (a.paper == b.paper) = true) (h3 : (a.case_ == b.case_) = true) (h4 : (a.by_ == b.by_) = false) :
    Calls Try.prog 71 #[.agg #[.int .i64 a.kind,.int .i64 a.minute,.int .i64 a.paper,.int .i64 a.case_,.int .i64 a.by_,.int .i64 a.against,.int .i64 a.art,.int .i64 a.at_,.slice A a.facts.length ca,.int .i64 a.paid,.bool a.up,.int .i64 a.pen],.agg #[.int .i64 b.kind,.int .i64 b.minute,.int .i64 b.paper,.int .i64 b.case_,.int .i64 b.by_,.int .i64 b.against,.int .i64 b.art,.int .i64 b.at_,.slice B b.facts.length cb,.int .i64 b.paid,.bool b.up,.int .i64 b.pen]] w fun e w' => e = .returned (.bool (actEq a b)) ∧ Below w.heap.size w w':=by
  have HQ:=Aside.mk (show actEq a b = false by simp only [actEq,h0,h1,h2,h3,h4,Bool.true_and,Bool.false_and])
  go_enter Try.func71,Try.ntmps71
  go_wp2
  go_ret
  exact ⟨ret_eq (by rw [HQ.out];rfl),bel_alloc (bel_alloc (Below.refl _ _) _) _⟩
set_option maxHeartbeats 2000000 in
set_option maxRecDepth 100000 in
theorem sameAct_5 (A B : Option Addr) (ca cb : Nat) (a b : ActL) (w : World) (ha : RI Any w A a.facts) (hb : RI Any w B b.facts) (hc : a.facts.length ≤ 9223372036854775807) (h0 : (a.kind == b.kind) = true) (h1 : (a.minute == b.minute) = true) (h2 : (a.paper == b.paper) = true) (h3 : (a.case_ == b.case_) = true) (h4 : (a.by_ == b.by_) = true) (h5 : (a.against == b.against) = false) :
    Calls Try.prog 71 #[.agg #[.int .i64 a.kind,.int .i64 a.minute,.int .i64 a.paper,.int .i64 a.case_,.int .i64 a.by_,.int .i64 a.against,.int .i64 a.art,.int .i64 a.at_,.slice A a.facts.length ca,.int .i64 a.paid,.bool a.up,.int .i64 a.pen],.agg #[.int .i64 b.kind,.int .i64 b.minute,.int .i64 b.paper,.int .i64 b.case_,.int .i64 b.by_,.int .i64 b.against,.int .i64 b.art,.int .i64 b.at_,.slice B b.facts.length cb,.int .i64 b.paid,.bool b.up,.int .i64 b.pen]] w fun e w' => e = .returned (.bool (actEq a b)) ∧ Below w.heap.size w w':=by
  have HQ:=Aside.mk (show actEq a b = false by simp only [actEq,h0,h1,h2,h3,h4,h5,Bool.true_and,Bool.false_and])
  go_enter Try.func71,Try.ntmps71
  go_wp2
  go_ret
  exact ⟨ret_eq (by rw [HQ.out];rfl),bel_alloc (bel_alloc (Below.refl _ _) _) _⟩
set_option maxHeartbeats 2000000 in
set_option maxRecDepth 100000 in
theorem sameAct_6 (A B : Option Addr) (ca cb : Nat) (a b : ActL) (w : World) (ha : RI Any w A a.facts) (hb : RI Any w B b.facts) (hc : a.facts.length ≤ 9223372036854775807) (h0 : (a.kind == b.kind) = true) (h1 : (a.minute == b.minute) = true) (h2 : (a.paper == b.paper) = true) (h3 : (a.case_ == b.case_) = true) (h4 : (a.by_ == b.by_) = true) (h5 : (a.against == b.against) = true) (h6 : (a.art == b.art) = false) :
    Calls Try.prog 71 #[.agg #[.int .i64 a.kind,.int .i64 a.minute,.int .i64 a.paper,.int .i64 a.case_,.int .i64 a.by_,.int .i64 a.against,.int .i64 a.art,.int .i64 a.at_,.slice A a.facts.length ca,.int .i64 a.paid,.bool a.up,.int .i64 a.pen],.agg #[.int .i64 b.kind,.int .i64 b.minute,.int .i64 b.paper,.int .i64 b.case_,.int .i64 b.by_,.int .i64 b.against,.int .i64 b.art,.int .i64 b.at_,.slice B b.facts.length cb,.int .i64 b.paid,.bool b.up,.int .i64 b.pen]] w fun e w' => e = .returned (.bool (actEq a b)) ∧ Below w.heap.size w w':=by
  have HQ:=Aside.mk (show actEq a b = false by simp only [actEq,h0,h1,h2,h3,h4,h5,h6,Bool.true_and,Bool.false_and])
  go_enter Try.func71,Try.ntmps71
  go_wp2
  go_ret
  exact ⟨ret_eq (by rw [HQ.out];rfl),bel_alloc (bel_alloc (Below.refl _ _) _) _⟩
set_option maxHeartbeats 2000000 in
set_option maxRecDepth 100000 in
theorem sameAct_7 (A B : Option Addr) (ca cb : Nat) (a b : ActL) (w : World) (ha : RI Any w A a.facts) (hb : RI Any w B b.facts) (hc : a.facts.length ≤ 9223372036854775807) (h0 : (a.kind == b.kind) = true) (h1 : (a.minute == b.minute) = true) (h2 : (a.paper == b.paper) = true) (h3 : (a.case_ == b.case_) = true) (h4 : (a.by_ == b.by_) = true) (h5 : (a.against == b.against) = true) (h6 : (a.art == b.art) = true) (h7 : (a.at_ == b.at_) = false) :
    Calls Try.prog 71 #[.agg #[.int .i64 a.kind,.int .i64 a.minute,.int .i64 a.paper,.int .i64 a.case_,.int .i64 a.by_,.int .i64 a.against,.int .i64 a.art,.int .i64 a.at_,.slice A a.facts.length ca,.int .i64 a.paid,.bool a.up,.int .i64 a.pen],.agg #[.int .i64 b.kind,.int .i64 b.minute,.int .i64 b.paper,.int .i64 b.case_,.int .i64 b.by_,.int .i64 b.against,.int .i64 b.art,.int .i64 b.at_,.slice B b.facts.length cb,.int .i64 b.paid,.bool b.up,.int .i64 b.pen]] w fun e w' => e = .returned (.bool (actEq a b)) ∧ Below w.heap.size w w':=by
  have HQ:=Aside.mk (show actEq a b = false by simp only [actEq,h0,h1,h2,h3,h4,h5,h6,h7,Bool.true_and,Bool.false_and])
  go_enter Try.func71,Try.ntmps71
  go_wp2
  go_ret
  exact ⟨ret_eq (by rw [HQ.out];rfl),bel_alloc (bel_alloc (Below.refl _ _) _) _⟩
end Go.Proofs.Ytpadgcomncljmaa.A
/- Equal acts,part B7. -/
namespace Go.Proofs.Ytpadgcomncljmaa.A
open Go.RowKit
set_option maxHeartbeats 2000000 in
set_option maxRecDepth 100000 in
theorem sameAct_8 (A B : Option Addr) (ca cb : Nat) (a b : ActL) (w : World) (ha : RI Any w A a.facts) (hb : RI Any w B b.facts) (hc : a.facts.length ≤ 9223372036854775807) (h0 : (a.kind == b.kind) = true) (h1 : (a.minute == b.minute) = true) (h2 : (a.paper == b.paper) = true) (h3 : (a.case_ == b.case_) = true) (h4 : (a.by_ == b.by_) = true) (h5 : (a.against == b.against) = true) (h6 : (a.art == b.art) = true) (h7 : (a.at_ == b.at_) = true) (h8 : (a.paid == b.paid) = false) :
    Calls Try.prog 71 #[.agg #[.int .i64 a.kind,.int .i64 a.minute,.int .i64 a.paper,.int .i64 a.case_,.int .i64 a.by_,.int .i64 a.against,.int .i64 a.art,.int .i64 a.at_,.slice A a.facts.length ca,.int .i64 a.paid,.bool a.up,.int .i64 a.pen],.agg #[.int .i64 b.kind,.int .i64 b.minute,.int .i64 b.paper,.int .i64 b.case_,.int .i64 b.by_,.int .i64 b.against,.int .i64 b.art,.int .i64 b.at_,.slice B b.facts.length cb,.int .i64 b.paid,.bool b.up,.int .i64 b.pen]] w fun e w' => e = .returned (.bool (actEq a b)) ∧ Below w.heap.size w w':=by
  have HQ:=Aside.mk (show actEq a b = false by simp only [actEq,h0,h1,h2,h3,h4,h5,h6,h7,h8,Bool.true_and,Bool.false_and])
  go_enter Try.func71,Try.ntmps71
  go_wp2
  go_ret
  exact ⟨ret_eq (by rw [HQ.out];rfl),bel_alloc (bel_alloc (Below.refl _ _) _) _⟩
set_option maxHeartbeats 2000000 in
set_option maxRecDepth 100000 in
theorem sameAct_9 (A B : Option Addr) (ca cb : Nat) (a b : ActL) (w : World) (ha : RI Any w A a.facts) (hb : RI Any w B b.facts) (hc : a.facts.length ≤ 9223372036854775807) (h0 : (a.kind == b.kind) = true) (h1 : (a.minute == b.minute) = true) (h2 : (a.paper == b.paper) = true) (h3 : (a.case_ == b.case_) = true) (h4 : (a.by_ == b.by_) = true) (h5 : (a.against == b.against) = true) (h6 : (a.art == b.art) = true) (h7 : (a.at_ == b.at_) = true) (h8 : (a.paid == b.paid) = true) (h9 : (a.up == b.up) = false) :
    Calls Try.prog 71 #[.agg #[.int .i64 a.kind,.int .i64 a.minute,.int .i64 a.paper,.int .i64 a.case_,.int .i64 a.by_,.int .i64 a.against,.int .i64 a.art,.int .i64 a.at_,.slice A a.facts.length ca,.int .i64 a.paid,.bool a.up,.int .i64 a.pen],.agg #[.int .i64 b.kind,.int .i64 b.minute,.int .i64 b.paper,.int .i64 b.case_,.int .i64 b.by_,.int .i64 b.against,.int .i64 b.art,.int .i64 b.at_,.slice B b.facts.length cb,.int .i64 b.paid,.bool b.up,.int .i64 b.pen]] w fun e w' => e = .returned (.bool (actEq a b)) ∧ Below w.heap.size w w':=by
  have HQ:=Aside.mk (show actEq a b = false by simp only [actEq,h0,h1,h2,h3,h4,h5,h6,h7,h8,h9,Bool.true_and,Bool.false_and])
  go_enter Try.func71,Try.ntmps71
  go_wp2
  go_ret
  exact ⟨ret_eq (by rw [HQ.out];rfl),bel_alloc (bel_alloc (Below.refl _ _) _) _⟩
set_option maxHeartbeats 2000000 in
set_option maxRecDepth 100000 in
theorem sameAct_10 (A B : Option Addr) (ca cb : Nat) (a b : ActL) (w : World) (ha : RI Any w A a.facts) (hb : RI Any w B b.facts) (hc : a.facts.length ≤ 9223372036854775807) (h0 : (a.kind == b.kind) = true) (h1 : (a.minute == b.minute) = true) (h2 : (a.paper == b.paper) = true) (h3 : (a.case_ == b.case_) = true) (h4 : (a.by_ == b.by_) = true) (h5 : (a.against == b.against) = true) (h6 : (a.art == b.art) = true) (h7 : (a.at_ == b.at_) = true) (h8 : (a.paid == b.paid) = true) (h9 : (a.up == b.up) = true) (h10 : (a.pen == b.pen) = false) :
    Calls Try.prog 71 #[.agg #[.int .i64 a.kind,.int .i64 a.minute,.int .i64 a.paper,.int .i64 a.case_,.int .i64 a.by_,.int .i64 a.against,.int .i64 a.art,.int .i64 a.at_,.slice A a.facts.length ca,.int .i64 a.paid,.bool a.up,.int .i64 a.pen],.agg #[.int .i64 b.kind,.int .i64 b.minute,.int .i64 b.paper,.int .i64 b.case_,.int .i64 b.by_,.int .i64 b.against,.int .i64 b.art,.int .i64 b.at_,.slice B b.facts.length cb,.int .i64 b.paid,.bool b.up,.int .i64 b.pen]] w fun e w' => e = .returned (.bool (actEq a b)) ∧ Below w.heap.size w w':=by
  have HQ:=Aside.mk (show actEq a b = false by simp only [actEq,h0,h1,h2,h3,h4,h5,h6,h7,h8,h9,h10,Bool.true_and,Bool.false_and])
  go_enter Try.func71,Try.ntmps71
  go_wp2
  go_ret
  exact ⟨ret_eq (by rw [HQ.out];rfl),bel_alloc (bel_alloc (Below.refl _ _) _) _⟩
set_option maxHeartbeats 2000000 in
set_option maxRecDepth 100000 in
theorem sameAct_11 (A B : Option Addr) (ca cb : Nat) (a b : ActL) (w : World) (ha : RI Any w A a.facts) (hb : RI Any w B b.facts) (hc : a.facts.length ≤ 9223372036854775807) (h0 : (a.kind == b.kind) = true) (h1 : (a.minute == b.minute) = true) (h2 : (a.paper == b.paper) = true) (h3 : (a.case_ == b.case_) = true) (h4 : (a.by_ == b.by_) = true) (h5 : (a.against == b.against) = true) (h6 : (a.art == b.art) = true) (h7 : (a.at_ == b.at_) = true) (h8 : (a.paid == b.paid) = true) (h9 : (a.up == b.up) = true) (h10 : (a.pen == b.pen) = true) :
    Calls Try.prog 71 #[.agg #[.int .i64 a.kind,.int .i64 a.minute,.int .i64 a.paper,.int .i64 a.case_,.int .i64 a.by_,.int .i64 a.against,.int .i64 a.art,.int .i64 a.at_,.slice A a.facts.length ca,.int .i64 a.paid,.bool a.up,.int .i64 a.pen],.agg #[.int .i64 b.kind,.int .i64 b.minute,.int .i64 b.paper,.int .i64 b.case_,.int .i64 b.by_,.int .i64 b.against,.int .i64 b.art,.int .i64 b.at_,.slice B b.facts.length cb,.int .i64 b.paid,.bool b.up,.int .i64 b.pen]] w fun e w' => e = .returned (.bool (actEq a b)) ∧ Below w.heap.size w w':=by
  have HQ:=Aside.mk (show actEq a b = eqB a.facts b.facts by simp only [actEq,h0,h1,h2,h3,h4,h5,h6,h7,h8,h9,h10,Bool.true_and,Bool.false_and]);have HB:=Aside.mk (bel_alloc (bel_alloc (Below.refl _ w) (.cells #[.int .i64 a.kind,.int .i64 a.minute,.int .i64 a.paper,.int .i64 a.case_,.int .i64 a.by_,.int .i64 a.against,.int .i64 a.art,.int .i64 a.at_,.slice A a.facts.length ca,.int .i64 a.paid,.bool a.up,.int .i64 a.pen] 43)) (.cells #[.int .i64 b.kind,.int .i64 b.minute,.int .i64 b.paper,.int .i64 b.case_,.int .i64 b.by_,.int .i64 b.against,.int .i64 b.art,.int .i64 b.at_,.slice B b.facts.length cb,.int .i64 b.paid,.bool b.up,.int .i64 b.pen] 43));have HA:=Aside.mk (ha.below HB.out);have HC:=Aside.mk (hb.below HB.out);clear ha hb
  go_enter Try.func71,Try.ntmps71
  go_wp2_with fail
  refine (same_any _ _ _ _ a.facts b.facts _ HA.out HC.out hc).mono ?_
  rintro e w' ⟨rfl,hb1⟩
  have HB1:=Aside.mk hb1;clear hb1
  go_wp2
  go_ret
  exact ⟨ret_eq (by rw [HQ.out];rfl),bel_then HB.out HB1.out⟩
end Go.Proofs.Ytpadgcomncljmaa.A
/- Equal acts and records. -/
namespace Go.Proofs.Ytpadgcomncljmaa.A
open Go.RowKit
theorem sameAct_any (A B : Option Addr) (ca cb : Nat) (a b : ActL) (w : World) (ha : RI Any w A a.facts) (hb : RI Any w B b.facts) (hc : a.facts.length ≤ 9223372036854775807) :
    Calls Try.prog 71 #[.agg #[.int .i64 a.kind,.int .i64 a.minute,.int .i64 a.paper,.int .i64 a.case_,.int .i64 a.by_,.int .i64 a.against,.int .i64 a.art,.int .i64 a.at_,.slice A a.facts.length ca,.int .i64 a.paid,.bool a.up,.int .i64 a.pen],.agg #[.int .i64 b.kind,.int .i64 b.minute,.int .i64 b.paper,.int .i64 b.case_,.int .i64 b.by_,.int .i64 b.against,.int .i64 b.art,.int .i64 b.at_,.slice B b.facts.length cb,.int .i64 b.paid,.bool b.up,.int .i64 b.pen]] w fun e w' => e = .returned (.bool (actEq a b)) ∧ Below w.heap.size w w':=by
  cases h0 : (a.kind == b.kind)
  · exact sameAct_0 A B ca cb a b w ha hb hc h0
  cases h1 : (a.minute == b.minute)
  · exact sameAct_1 A B ca cb a b w ha hb hc h0 h1
  cases h2 : (a.paper == b.paper)
  · exact sameAct_2 A B ca cb a b w ha hb hc h0 h1 h2
  cases h3 : (a.case_ == b.case_)
  · exact sameAct_3 A B ca cb a b w ha hb hc h0 h1 h2 h3
  cases h4 : (a.by_ == b.by_)
  · exact sameAct_4 A B ca cb a b w ha hb hc h0 h1 h2 h3 h4
  cases h5 : (a.against == b.against)
  · exact sameAct_5 A B ca cb a b w ha hb hc h0 h1 h2 h3 h4 h5
  cases h6 : (a.art == b.art)
  · exact sameAct_6 A B ca cb a b w ha hb hc h0 h1 h2 h3 h4 h5 h6
  cases h7 : (a.at_ == b.at_)
  · exact sameAct_7 A B ca cb a b w ha hb hc h0 h1 h2 h3 h4 h5 h6 h7
  cases h8 : (a.paid == b.paid)
  · exact sameAct_8 A B ca cb a b w ha hb hc h0 h1 h2 h3 h4 h5 h6 h7 h8
  cases h9 : (a.up == b.up)
  · exact sameAct_9 A B ca cb a b w ha hb hc h0 h1 h2 h3 h4 h5 h6 h7 h8 h9
  cases h10 : (a.pen == b.pen)
  · exact sameAct_10 A B ca cb a b w ha hb hc h0 h1 h2 h3 h4 h5 h6 h7 h8 h9 h10
  exact sameAct_11 A B ca cb a b w ha hb hc h0 h1 h2 h3 h4 h5 h6 h7 h8 h9 h10
end Go.Proofs.Ytpadgcomncljmaa.A
/- Plain law: the reference's word on an act's shape is the program's. -/
namespace Go.Proofs.Ytpadgcomncljmaa.A
open Go.RowKit
def only1 (a : ActL) : ActL:={ zeroAct with kind:=a.kind,minute:=a.minute,paper:=a.paper }
def only2 (a : ActL) : ActL:={ zeroAct with kind:=a.kind,minute:=a.minute,by_:=a.by_,against:=a.against,paper:=a.paper,art:=a.art,at_:=a.at_,facts:=a.facts,paid:=a.paid }
def only3 (a : ActL) : ActL:={ zeroAct with kind:=a.kind,minute:=a.minute,case_:=a.case_,up:=a.up,pen:=a.pen }
def only4 (a : ActL) : ActL:={ zeroAct with kind:=a.kind,minute:=a.minute,case_:=a.case_,by_:=a.by_,paid:=a.paid }
def only6 (a : ActL) : ActL:={ zeroAct with kind:=a.kind,minute:=a.minute,case_:=a.case_,by_:=a.by_ }
def ok1 (a : ActL) : Bool:=inB a.paper 1 1000000
def ok2 (cars : Int) (a : ActL) : Bool:=inB a.by_ 1 cars && (inB a.against 1 cars && ((a.by_ != a.against) && (inB a.paper 1 1000000 && (inB a.art 1 10000 && (inB a.at_ 0 a.minute && (factsB a.facts && inB a.paid 0 1000000000))))))
def ok3 (a : ActL) : Bool:=decide (0 ≤ a.case_) && inB a.pen 0 36000000
def ok4 (cars : Int) (a : ActL) : Bool:=decide (0 ≤ a.case_) && (inB a.by_ 1 cars && inB a.paid 0 1000000000)
def ok6 (cars : Int) (a : ActL) : Bool:=decide (0 ≤ a.case_) && inB a.by_ 1 cars
theorem eqB_nil (l : List Int) : eqB l [] = (l.length == 0):=by cases l <;> simp [eqB]
theorem eqB_self (l : List Int) : eqB l l = true:=by simp [eqB]
section
variable {cars : Int} {a : ActL}
theorem shape_late (h : inB a.minute 0 10000000 = false) : shapedB cars a = false:=by
  unfold shapedB shOk shMin
  rw [h]
  simp
theorem shape_none (h : ¬ a.kind = 1 ∧ ¬ a.kind = 2 ∧ ¬ a.kind = 3 ∧ ¬ a.kind = 4 ∧ ¬ a.kind = 5 ∧ ¬ a.kind = 6) : shapedB cars a = false:=by
  simp [shapedB,shKind,h]
theorem shape_1 (h : inB a.minute 0 10000000 = true) (hk : a.kind = 1) : shapedB cars a = (ok1 a && actEq a (only1 a)):=by
  rw [Bool.eq_iff_iff];simp only [shapedB,shKind,shOk,shMin,shFacts,sameRest,shapeX,hk,h,ok1,actEq,only1,eqB_nil,zeroAct,Bool.and_eq_true,beq_iff_eq,Bool.or_eq_true,if_true,beq_self_eq_true]
  constructor <;> (intro hh;simp_all)
theorem shape_2 (h : inB a.minute 0 10000000 = true) (hk : a.kind = 2) : shapedB cars a = (ok2 cars a && actEq a (only2 a)):=by
  rw [Bool.eq_iff_iff]
  simp [shapedB,shKind,shOk,shMin,shFacts,sameRest,shapeX,hk,h,ok2,actEq,only2,eqB_self,zeroAct,factsB,and_assoc,and_left_comm,and_comm]
theorem shape_3 (h : inB a.minute 0 10000000 = true) (hk : a.kind = 3 ∨ a.kind = 5) : shapedB cars a = (ok3 a && actEq a (only3 a)):=by
  rw [Bool.eq_iff_iff]
  rcases hk with hk | hk <;>
  · simp [shapedB,shKind,shOk,shMin,shFacts,sameRest,shapeX,hk,h,ok3,actEq,only3,eqB_nil,zeroAct,and_assoc,and_left_comm,and_comm]
theorem shape_4 (h : inB a.minute 0 10000000 = true) (hk : a.kind = 4) : shapedB cars a = (ok4 cars a && actEq a (only4 a)):=by
  rw [Bool.eq_iff_iff]
  simp [shapedB,shKind,shOk,shMin,shFacts,sameRest,shapeX,hk,h,ok4,actEq,only4,eqB_nil,zeroAct,and_assoc,and_left_comm,and_comm]
theorem shape_6 (h : inB a.minute 0 10000000 = true) (hk : a.kind = 6) : shapedB cars a = (ok6 cars a && actEq a (only6 a)):=by
  rw [Bool.eq_iff_iff]
  simp [shapedB,shKind,shOk,shMin,shFacts,sameRest,shapeX,hk,h,ok6,actEq,only6,eqB_nil,zeroAct,and_assoc,and_left_comm,and_comm]
end
end Go.Proofs.Ytpadgcomncljmaa.A
/- Versions of articles in boxes: new,loaded,stored,compared;results that lie in boxes. -/
namespace Go.Proofs.Ytpadgcomncljmaa.A
open Go.RowKit
def zeroArt : Art:=⟨0,0,0,0⟩
def artV (x : Art) : Value:=.agg #[.int .i64 x.num,.int .i64 x.since,.int .i64 x.least,.int .i64 x.most]
def artC (x : Art) : Array Value:=#[.int .i64 x.num,.int .i64 x.since,.int .i64 x.least,.int .i64 x.most]
section
variable {ops : Array Oper} {Q : Exit → Act → World → Prop} {a : Act} {w w' : World} {rest : List Oper} {o : Oper} {n d : Nat} {ds : List Deferred} {l : List (Nat × Value)} {v : Value}
variable {t : TypeId} {ps : String} {af : Array Edge} {g : Option (Nat × Bool)} {x y z : Operand} {T T' : TypeId} {p : Addr}
theorem put4 {b : Nat} {old : Array Value} (h : w.heap[b]? = some (.cells old 71 (0,0))) (hs : old.size = 4) (v0 v1 v2 v3 : Value) : ((((w.setCell ⟨b,0,none⟩ v0).setCell ⟨b,1,none⟩ v1).setCell ⟨b,2,none⟩ v2).setCell ⟨b,3,none⟩ v3).heap[b]? = some (.cells #[v0,v1,v2,v3] 71 (0,0)) ∧ Mod (fun k => k = b) w ((((w.setCell ⟨b,0,none⟩ v0).setCell ⟨b,1,none⟩ v1).setCell ⟨b,2,none⟩ v2).setCell ⟨b,3,none⟩ v3):=by
  obtain ⟨l⟩:=old
  match l,hs with
  | [o0,o1,o2,o3],_ =>
    exact ⟨blk_set (blk_set (blk_set (blk_set h 0 v0) 1 v1) 2 v2) 3 v3,(((Mod.refl.put1 0 _).put1 1 _).put1 2 _).put1 3 _⟩
theorem run_store71 {ev : Operand → Value} {b : Nat} {old : Array Value} (X : Art) (hx : ev x = .pointer (some ⟨b, 0, none⟩)) (hy : ev y = artV X) (h : w.heap[b]? = some (.cells old 71 (0, 0))) (hs : old.size = 4) :
    ∃ w',(execOp ev ⟨none,.store 71 x y,t,ps,af,g⟩).run Try.prog w = .ok .skip w' ∧ w'.heap[b]? = some (.cells (artC X) 71 (0,0)) ∧ Mod (fun k => k = b) w w':=by
  obtain ⟨l⟩:=old
  match l,hs with
  | [o0,o1,o2,o3],_ =>
    refine ⟨_,?_,put4 h rfl (.int .i64 X.num) (.int .i64 X.since) (.int .i64 X.least) (.int .i64 X.most)⟩;have hu:=Try.underlying71;have hf : ∀ i,w.frozen? ⟨b,i,none⟩ = false:=fun i => by simp [World.frozen?,h]
    have hc : ∀ i u,(#[o0,o1,o2,o3] : Array Value)[i]? = some u → w.cell? ⟨b,i,none⟩ = some u:=fun i u hu => by simp [World.cell?,h,hu]
    have c0:=hc 0 _ rfl;have c1:=hc 1 _ rfl;have c2:=hc 2 _ rfl;have c3:=hc 3 _ rfl
    unfold artV at hy
    simp [go_sem,hx,hy,hu,hf,c0,c1,c2,c3]
theorem a_store71 {b : Nat} {old : Array Value} {X : Art} (H : Has n ds l a) (hg : wantB ops n l g = some true) (hx : lookO l x = some (.pointer (some ⟨b, 0, none⟩))) (hy : lookO l y = some (artV X)) (hb : w.heap[b]? = some (.cells old 71 (0, 0))) (hs : old.size = 4)
    (h : ∀ a' w',Has n ds l a' → w'.heap[b]? = some (.cells (artC X) 71 (0,0)) → Mod (fun k => k = b) w w' → wpList Try.prog ops Q rest a' w') : wpList Try.prog ops Q (⟨none,.store 71 x y,t,ps,af,g⟩ :: rest) a w:=by
  obtain ⟨w',h1,h2,h3⟩:=run_store71 (t:=t) (ps:=ps) (af:=af) (g:=g) X (H.evO hx) (H.evO hy) hb hs
  exact a_skip H hg h1 rfl fun a' H' => h a' w' H' h2 h3
theorem a_load71b {b : Nat} {X : Art} (H : Has n ds l a) (hg : wantB ops n l g = some true) (hx : lookO l x = some (.pointer (some ⟨b, 0, none⟩))) (hb : w.heap[b]? = some (.cells (artC X) 71 (0, 0)))
    (hd : Nat.ble (d + 1) n = true) (h : ∀ a',Has n ds ((d,artV X) :: l) a' → wpList Try.prog ops Q rest a' w) : wpList Try.prog ops Q (⟨some d,.load 71 x,t,ps,af,g⟩ :: rest) a w:=by
  have hc : ∀ i u,(artC X)[i]? = some u → w.cell? ⟨b,i,none⟩ = some u:=fun i u hu => by simp [World.cell?,hb,hu]
  exact a_load71 H hg hx (hc 0 _ rfl) (hc 1 _ rfl) (hc 2 _ rfl) (hc 3 _ rfl) hd h
theorem a_alloc71 (H : Has n ds l a) (hg : wantB ops n l g = some true) (hd : Nat.ble (d + 1) n = true) (h : ∀ a',Has n ds ((d,.pointer (some ⟨w.heap.size,0,none⟩)) :: l) a' → wpList Try.prog ops Q rest a' (w.alloc (.cells (artC zeroArt) 71))) : wpList Try.prog ops Q (⟨some d,.alloc 71,t,ps,af,g⟩ :: rest) a w :=
  a_do H hg (by generalize a.eval = ev;simp [go_sem,artC,zeroArt]) rfl hd h
end
theorem art_result {fn : Func} {s s' : Nat} (hr : fn.results = #[.cell s 71, .tmp s']) (tm : Array Value) (W : World) (b : Nat) (u : Value) (X : Art) (h6 : tm.getD s undef = .pointer (some ⟨b, 0, none⟩)) (h7 : tm.getD s' undef = u) (hb : W.heap[b]? = some (.cells (artC X) 71 (0, 0))) :
    (results fn tm).run Try.prog W = .ok (.tuple #[artV X,u]) W:=by
  have hc : ∀ i u,(artC X)[i]? = some u → W.cell? ⟨b,i,none⟩ = some u:=fun i u hu => by simp [World.cell?,hb,hu]
  have c0:=hc 0 _ rfl;have c1:=hc 1 _ rfl;have c2:=hc 2 _ rfl;have c3:=hc 3 _ rfl;have hu:=Try.underlying71;simp only [Array.getD_eq_getD_getElem?] at h6 h7
  simp [results,hr,go_sem,h6,h7,hu,c0,c1,c2,c3,artV]
  exact ⟨rfl,rfl,rfl,rfl⟩
end Go.Proofs.Ytpadgcomncljmaa.A
/- The version of an article: as the program says it,as the reference says it. -/
namespace Go.Proofs.Ytpadgcomncljmaa.A
open Go.RowKit
theorem a_load33b {ops : Array Oper} {Q : Exit → Act → World → Prop} {a : Act} {w : World} {rest : List Oper} {n d : Nat} {ds : List Deferred} {l : List (Nat × Value)} {t : TypeId} {ps : String} {af : Array Edge} {g : Option (Nat × Bool)} {x : Operand} {b : Nat} {v0 v1 v2 v3 v4 v5 : Value} (H : Has n ds l a) (hg : wantB ops n l g = some true) (hx : lookO l x = some (.pointer (some ⟨b, 0, none⟩))) (hb : w.heap[b]? = some (.cells #[v0, v1, v2, v3, v4, v5] 33 (0, 0)))
    (hd : Nat.ble (d + 1) n = true) (h : ∀ a',Has n ds ((d,.agg #[v0,v1,v2,v3,v4,v5]) :: l) a' → wpList Try.prog ops Q rest a' w) : wpList Try.prog ops Q (⟨some d,.load 33 x,t,ps,af,g⟩ :: rest) a w:=by
  have hc : ∀ i u,(#[v0,v1,v2,v3,v4,v5] : Array Value)[i]? = some u → w.cell? ⟨b,i,none⟩ = some u:=fun i u hu => by simp [World.cell?,hb,hu]
  exact a_load33 H hg hx (hc 0 _ rfl) (hc 1 _ rfl) (hc 2 _ rfl) (hc 3 _ rfl) (hc 4 _ rfl) (hc 5 _ rfl) hd h
def artAt (l : List Art) (i : Int) : Art:=l[i.toNat]?.getD zeroArt
def verStepO (a m : Int) (r : Option Art) (x : Art) : Option Art:=if x.num = a ∧ x.since ≤ m then some x else r
def verO (l : List Art) (a m : Int) : Option Art:=l.foldl (verStepO a m) none
theorem verO_snoc (l : List Art) (x : Art) (a m : Int) : verO (l ++ [x]) a m = verStepO a m (verO l a m) x:=by simp [verO]
theorem verO_at (a m : Int) : ∀ l : List Art,verO l a m = if 0 ≤ verAt l a m then some (artAt l (verAt l a m)) else none:=by
  have key : ∀ n (l : List Art),l.length = n → verO l a m = if 0 ≤ verAt l a m then some (artAt l (verAt l a m)) else none:=by
    intro n
    induction n with
    | zero => intro l hl;obtain rfl : l = []:=List.eq_nil_of_length_eq_zero hl;simp [verO,verAt]
    | succ n ih =>
      intro l hl
      obtain ⟨l',x,rfl⟩ : ∃ l' x,l = l' ++ [x]:=⟨l.dropLast,l.getLast (by intro h;subst h;simp at hl),(List.dropLast_concat_getLast _).symm⟩
      have hl' : l'.length = n:=by simpa using hl
      rw [verO_snoc,verAt_snoc,ih l' hl']
      unfold verStepO verStep
      by_cases hx : x.num = a ∧ x.since ≤ m
      · rw [if_pos hx,if_pos hx]
        simp [artAt]
      · rw [if_neg hx,if_neg hx]
        by_cases h0 : 0 ≤ verAt l' a m
        · rw [if_pos h0,if_pos h0]
          have:=(verAt_lt l' a m).1
          unfold artAt
          rw [List.getElem?_append_left (by omega)]
        · rw [if_neg h0,if_neg h0]
  exact fun l => key _ l rfl
set_option maxHeartbeats 4000000 in
set_option maxRecDepth 100000 in
theorem refVersion_any (C : CodeL) (A : Option Addr) (c : Nat) (art min : Int) (w : World) (hl : RArt Any w A C.arts) (hn : C.arts.length ≤ 1000000) :
    Calls Try.prog 40 #[.agg #[.int .i64 C.cars,.slice A C.arts.length c,.int .i64 C.win,.int .i64 C.sec,.int .i64 C.fee,.int .i64 C.price],.int .i64 art,.int .i64 min] w fun e w' => e = .returned (.tuple #[artV ((verO C.arts art min).getD zeroArt),.bool (verO C.arts art min).isSome]) ∧ Below w.heap.size w w':=by
  have HL:=Aside.mk hl;clear hl;have hb3:=at3 (w:=w) (o1:=.cells #[.int .i64 C.cars,.slice A C.arts.length c,.int .i64 C.win,.int .i64 C.sec,.int .i64 C.fee,.int .i64 C.price] 33) (o2:=.cells (artC zeroArt) 71) (o3:=.cells (artC zeroArt) 71);have hBel : Below w.heap.size w (((w.alloc (.cells #[.int .i64 C.cars,.slice A C.arts.length c,.int .i64 C.win,.int .i64 C.sec,.int .i64 C.fee,.int .i64 C.price] 33)).alloc (.cells (artC zeroArt) 71)).alloc (.cells (artC zeroArt) 71)):=bel_alloc (bel_alloc (bel_alloc (Below.refl _ _) _) _) _;have hsz0 : (((w.alloc (.cells #[.int .i64 C.cars,.slice A C.arts.length c,.int .i64 C.win,.int .i64 C.sec,.int .i64 C.fee,.int .i64 C.price] 33)).alloc (.cells (artC zeroArt) 71)).alloc (.cells (artC zeroArt) 71)).heap.size = w.heap.size + 3:=by simp
  go_enter Try.func40,Try.ntmps40
  refine wp_abs (n:=37) (ds:=[]) (l:=[(0,.agg #[.int .i64 C.cars,.slice A C.arts.length c,.int .i64 C.win,.int .i64 C.sec,.int .i64 C.fee,.int .i64 C.price]),(1,.int .i64 art),(2,.int .i64 min)]) ?_ ?_
  · refine (((Has.nil ?_ ?_).cons ?_).cons ?_).cons ?_
    all_goals first | rfl | (simp [Act.eval];done)
  intro _ hf;refine wp_seq_k ?_;intro _ _;refine wp_region_lit ?_;refine a_box hf rfl rfl rfl rfl ?_;clear hf;intro _ hf;refine a_alloc71 hf rfl rfl ?_;clear hf;intro _ hf;refine a_assign hf rfl rfl rfl ?_;clear hf;intro _ hf;refine wpList_nil ?_;simp only [Exit.then,Exit.inBlock];go_step;refine wp_seq_k ?_;intro _ _;refine wp_region_lit ?_;refine a_alloc71 hf rfl rfl ?_;clear hf;intro _ hf;refine wpList_nil ?_;simp only [Exit.then,Exit.inBlock];go_step
  change Code.wp _ _ _ _ (((w.alloc (.cells #[.int .i64 C.cars,.slice A C.arts.length c,.int .i64 C.win,.int .i64 C.sec,.int .i64 C.fee,.int .i64 C.price] 33)).alloc (.cells (artC zeroArt) 71)).alloc (.cells (artC zeroArt) 71))
  replace hf : Has 37 [] [(8,.pointer (some ⟨w.heap.size + 2,0,none⟩)),(6,.pointer (some ⟨w.heap.size + 1,0,none⟩)),(3,.pointer (some ⟨w.heap.size,0,none⟩)),(1,.int .i64 art),(2,.int .i64 min)] _:=((((hf.nilOf.cons (hf.at_ 2 _ rfl)).cons (hf.at_ 1 _ rfl)).cons (hf.at_ 3 _ rfl)).cons (d:=6) ((hf.at_ 6 _ rfl).trans (by simp))).cons (d:=8) ((hf.at_ 8 _ rfl).trans (by simp))
  generalize (((w.alloc (.cells #[.int .i64 C.cars,.slice A C.arts.length c,.int .i64 C.win,.int .i64 C.sec,.int .i64 C.fee,.int .i64 C.price] 33)).alloc (.cells (artC zeroArt) 71)).alloc (.cells (artC zeroArt) 71)) = W0 at *
  refine wp_seq_k ?_;intro _ _;refine wp_region_lit ?_;refine a_assign hf rfl rfl rfl ?_;clear hf;intro _ hf;refine wpList_nil ?_;simp only [Exit.then,Exit.inBlock];go_step;refine wp_seq_k ?_;intro _ _;refine wp_seq_k ?_;intro _ _;refine wp_region_lit ?_;refine a_assign hf rfl rfl rfl ?_;clear hf;intro _ hf;refine wpList_nil ?_;simp only [Exit.then,Exit.inBlock];go_step;refine wp_block ?_;refine wp_loop_ghost (fun m fr wr => ∃ (k : Nat) (r : Option Art),k ≤ C.arts.length ∧ m = C.arts.length - k ∧ Has 37 [] [(10,.int .i64 (k : Int)),(9,.bool r.isSome),(8,.pointer (some ⟨w.heap.size + 2,0,none⟩)),(6,.pointer (some ⟨w.heap.size + 1,0,none⟩)),(3,.pointer (some ⟨w.heap.size,0,none⟩)),(1,.int .i64 art),(2,.int .i64 min)] fr ∧ Aside (r = verO (C.arts.take k) art min) ∧ wr.heap[w.heap.size + 2]? = some (.cells (artC (r.getD zeroArt)) 71 (0,0)) ∧ wr.heap[w.heap.size + 1]? = some (.cells (artC zeroArt) 71 (0,0)) ∧ wr.heap[w.heap.size]? = some (.cells #[.int .i64 C.cars,.slice A C.arts.length c,.int .i64 C.win,.int .i64 C.sec,.int .i64 C.fee,.int .i64 C.price] 33 (0,0)) ∧ Below w.heap.size w wr) C.arts.length ?_ ?_
  · exact ⟨0,none,Nat.zero_le _,rfl,((((((((hf.nilOf).cons (d:=2) (hf.at_ 2 _ rfl)).cons (d:=1) (hf.at_ 1 _ rfl)).cons (d:=3) (hf.at_ 3 _ rfl)).cons (d:=6) (hf.at_ 6 _ rfl)).cons (d:=8) (hf.at_ 8 _ rfl)).cons (d:=9) (hf.at_ 9 _ rfl)).cons (d:=10) (hf.at_ 10 _ rfl)),⟨rfl⟩,hb3.2.2,hb3.2.1,hb3.1,hBel⟩
  clear hb3 hBel hf
  rintro m fr wr ⟨k,r,hk',rfl,hf,HR,h8,h6,h3,hB⟩
  by_cases hlt : k < C.arts.length
  · obtain ⟨x,hx⟩:=get_some hlt
    have HX:=Aside.mk (show verO (C.arts.take (k + 1)) art min = verStepO art min r x by rw [drop_snoc hx,verO_snoc,HR.out])
    obtain ⟨ad,hA,_,k0,k1,k2,k3⟩:=(HL.out.below hB) k x hx
    subst hA
    have h3c:=blk_cell h3 1 (v:=.slice (some ad) C.arts.length c) rfl;have hzs:=blk_lt h8;clear hx;refine wp_seq_k ?_;intro _ _;refine wp_seq_k ?_;intro _ _;refine wp_region_lit ?_;refine a_move hf rfl rfl rfl ?_;clear hf;intro _ hf;refine a_field hf rfl rfl rfl rfl ?_;clear hf;intro _ hf;refine a_load hf rfl rfl rfl (by exact h3c) rfl ?_;clear hf;intro _ hf;refine a_len hf rfl rfl rfl rfl ?_;clear hf;intro _ hf;refine a_cmp (b:=true) hf rfl rfl rfl rfl rfl (by first | assumption | ((try dsimp only);simp only [bq1,bq2,bq3,bq4,bq5,bq6,bq7] <;> omega)) rfl ?_;clear hf;intro _ hf;refine wpList_nil ?_;simp only [Exit.then,Exit.inBlock];go_step;refine c_condT hf rfl ?_;refine wp_skip ?_;simp only [Exit.then];go_step;refine wp_seq_k ?_;intro _ _;refine wp_block ?_;refine wp_seq_k ?_;intro _ _;refine wp_region_lit ?_;refine a_field hf rfl rfl rfl rfl ?_;clear hf;intro _ hf;refine a_load hf rfl rfl rfl (by exact h3c) rfl ?_;clear hf;intro _ hf;refine a_move hf rfl rfl rfl ?_;clear hf;intro _ hf;refine a_index (j:=k) hf rfl rfl rfl rfl (by first | rfl | omega) (by omega) rfl ?_;clear hf;intro _ hf;refine a_load71 hf rfl rfl (by exact k0) (by exact k1) (by exact k2) (by exact k3) rfl ?_;clear hf;intro _ hf;refine a_alloc71 hf rfl rfl ?_;clear hf;intro _ hf;refine a_store71 (X:=x) hf rfl rfl rfl (heap_alloc_new wr _) rfl ?_;clear hf;intro _ w2 hf hA hM;refine wpList_nil ?_;simp only [Exit.then,Exit.inBlock];go_step;have hb2 : Below wr.heap.size wr w2:=bel_modG (bel_alloc (Below.refl _ _) _) hM (Nat.le_refl _);have h8':=(hb2.block _ hzs).trans h8;have h6':=(hb2.block _ (blk_lt h6)).trans h6;have h3':=(hb2.block _ (blk_lt h3)).trans h3;have hB2:=bel_then hB hb2;clear hM hb2 h8 h6 h3 k0 k1 k2 k3 h3c;refine wp_seq_k ?_;intro _ _
    by_cases hnum : x.num = art
    rotate_left
    · have hv : r = verStepO art min r x:=by unfold verStepO;rw [if_neg (fun h => hnum h.1)]
      refine wp_region_lit ?_;refine a_field hf rfl rfl rfl rfl ?_;clear hf;intro _ hf;refine a_load hf rfl rfl rfl (by exact blk_cell hA 0) rfl ?_;clear hf;intro _ hf;refine a_move hf rfl rfl rfl ?_;clear hf;intro _ hf;refine a_cmp (b:=false) hf rfl rfl rfl rfl rfl (by first | assumption | ((try dsimp only);simp only [bq1,bq2,bq3,bq4,bq5,bq6,bq7] <;> omega)) rfl ?_;clear hf;intro _ hf;refine a_move hf rfl rfl rfl ?_;clear hf;intro _ hf
      (first | refine a_not hf rfl rfl rfl ?_ | refine a_field hf rfl rfl rfl rfl ?_);clear hf;intro _ hf
      (first | refine a_not hf rfl rfl rfl ?_ | refine a_load hf rfl rfl rfl (by exact blk_cell hA 1) rfl ?_);clear hf;intro _ hf
      (first | refine a_not hf rfl rfl rfl ?_ | refine a_move hf rfl rfl rfl ?_);clear hf;intro _ hf
      (first | refine a_not hf rfl rfl rfl ?_ | refine a_cmp hf rfl rfl rfl rfl rfl rfl rfl ?_);clear hf;intro _ hf
      (first | refine a_pickT hf rfl rfl rfl rfl ?_ | refine a_pickF hf rfl rfl rfl rfl ?_);clear hf;intro _ hf
      refine wpList_nil ?_;simp only [Exit.then,Exit.inBlock];go_step;refine c_condF hf rfl ?_;refine wp_skip ?_;simp only [Exit.then,Exit.inBlock];go_step;refine wp_region_lit ?_;refine a_move hf rfl rfl rfl ?_;clear hf;intro _ hf;refine a_ar hf rfl rfl rfl rfl (by (try dsimp only);omega) rfl ?_;clear hf;intro _ hf;refine a_assign hf rfl rfl rfl ?_;clear hf;intro _ hf;refine wpList_nil ?_;simp only [Exit.then,Exit.inBlock];exact ⟨C.arts.length - (k + 1),by omega,k + 1,r,by omega,rfl,((((((((hf.nilOf).cons (d:=2) (hf.at_ 2 _ rfl)).cons (d:=1) (hf.at_ 1 _ rfl)).cons (d:=3) (hf.at_ 3 _ rfl)).cons (d:=6) (hf.at_ 6 _ rfl)).cons (d:=8) (hf.at_ 8 _ rfl)).cons (d:=9) (hf.at_ 9 _ rfl)).cons (d:=10) (hf.at_ 10 _ rfl)),⟨by rw [HX.out];exact hv⟩,h8',h6',h3',hB2⟩
    by_cases hmin : x.since ≤ min
    rotate_left
    · have hv : r = verStepO art min r x:=by unfold verStepO;rw [if_neg (fun h => hmin h.2)]
      refine wp_region_lit ?_;refine a_field hf rfl rfl rfl rfl ?_;clear hf;intro _ hf;refine a_load hf rfl rfl rfl (by exact blk_cell hA 0) rfl ?_;clear hf;intro _ hf;refine a_move hf rfl rfl rfl ?_;clear hf;intro _ hf;refine a_cmp (b:=true) hf rfl rfl rfl rfl rfl (by first | assumption | ((try dsimp only);simp only [bq1,bq2,bq3,bq4,bq5,bq6,bq7] <;> omega)) rfl ?_;clear hf;intro _ hf;refine a_move hf rfl rfl rfl ?_;clear hf;intro _ hf
      (first | refine a_not hf rfl rfl rfl ?_ | refine a_field hf rfl rfl rfl rfl ?_);clear hf;intro _ hf
      (first | refine a_not hf rfl rfl rfl ?_ | refine a_load hf rfl rfl rfl (by exact blk_cell hA 1) rfl ?_);clear hf;intro _ hf
      (first | refine a_not hf rfl rfl rfl ?_ | refine a_move hf rfl rfl rfl ?_);clear hf;intro _ hf
      (first | refine a_not hf rfl rfl rfl ?_ | refine a_cmp (b:=false) hf rfl rfl rfl rfl rfl (by first | assumption | ((try dsimp only);simp only [bq1,bq2,bq3,bq4,bq5,bq6,bq7] <;> omega)) rfl ?_);clear hf;intro _ hf
      (first | refine a_pickT hf rfl rfl rfl rfl ?_ | refine a_pickF hf rfl rfl rfl rfl ?_);clear hf;intro _ hf
      refine wpList_nil ?_;simp only [Exit.then,Exit.inBlock];go_step;refine c_condF hf rfl ?_;refine wp_skip ?_;simp only [Exit.then,Exit.inBlock];go_step;refine wp_region_lit ?_;refine a_move hf rfl rfl rfl ?_;clear hf;intro _ hf;refine a_ar hf rfl rfl rfl rfl (by (try dsimp only);omega) rfl ?_;clear hf;intro _ hf;refine a_assign hf rfl rfl rfl ?_;clear hf;intro _ hf;refine wpList_nil ?_;simp only [Exit.then,Exit.inBlock];exact ⟨C.arts.length - (k + 1),by omega,k + 1,r,by omega,rfl,((((((((hf.nilOf).cons (d:=2) (hf.at_ 2 _ rfl)).cons (d:=1) (hf.at_ 1 _ rfl)).cons (d:=3) (hf.at_ 3 _ rfl)).cons (d:=6) (hf.at_ 6 _ rfl)).cons (d:=8) (hf.at_ 8 _ rfl)).cons (d:=9) (hf.at_ 9 _ rfl)).cons (d:=10) (hf.at_ 10 _ rfl)),⟨by rw [HX.out];exact hv⟩,h8',h6',h3',hB2⟩
    have hv : some x = verStepO art min r x:=by unfold verStepO;rw [if_pos ⟨hnum,hmin⟩]
    refine wp_region_lit ?_;refine a_field hf rfl rfl rfl rfl ?_;clear hf;intro _ hf;refine a_load hf rfl rfl rfl (by exact blk_cell hA 0) rfl ?_;clear hf;intro _ hf;refine a_move hf rfl rfl rfl ?_;clear hf;intro _ hf;refine a_cmp (b:=true) hf rfl rfl rfl rfl rfl (by first | assumption | ((try dsimp only);simp only [bq1,bq2,bq3,bq4,bq5,bq6,bq7] <;> omega)) rfl ?_;clear hf;intro _ hf;refine a_move hf rfl rfl rfl ?_;clear hf;intro _ hf
    (first | refine a_not hf rfl rfl rfl ?_ | refine a_field hf rfl rfl rfl rfl ?_);clear hf;intro _ hf
    (first | refine a_not hf rfl rfl rfl ?_ | refine a_load hf rfl rfl rfl (by exact blk_cell hA 1) rfl ?_);clear hf;intro _ hf
    (first | refine a_not hf rfl rfl rfl ?_ | refine a_move hf rfl rfl rfl ?_);clear hf;intro _ hf
    (first | refine a_not hf rfl rfl rfl ?_ | refine a_cmp (b:=true) hf rfl rfl rfl rfl rfl (by first | assumption | ((try dsimp only);simp only [bq1,bq2,bq3,bq4,bq5,bq6,bq7] <;> omega)) rfl ?_);clear hf;intro _ hf
    (first | refine a_pickT hf rfl rfl rfl rfl ?_ | refine a_pickF hf rfl rfl rfl rfl ?_);clear hf;intro _ hf
    refine wpList_nil ?_;simp only [Exit.then,Exit.inBlock];go_step;refine c_condT hf rfl ?_;refine wp_region_lit ?_;refine a_load71b hf rfl rfl (by exact hA) rfl ?_;clear hf;intro _ hf;refine a_store71 (X:=x) hf rfl rfl rfl h8' rfl ?_;clear hf;intro _ w3 hf hA3 hM3;refine a_assign hf rfl rfl rfl ?_;clear hf;intro _ hf;refine wpList_nil ?_;simp only [Exit.then,Exit.inBlock];have hB3:=bel_modG hB2 hM3 (by omega);go_step;refine wp_region_lit ?_;refine a_move hf rfl rfl rfl ?_;clear hf;intro _ hf;refine a_ar hf rfl rfl rfl rfl (by (try dsimp only);omega) rfl ?_;clear hf;intro _ hf;refine a_assign hf rfl rfl rfl ?_;clear hf;intro _ hf;refine wpList_nil ?_;simp only [Exit.then,Exit.inBlock];exact ⟨C.arts.length - (k + 1),by omega,k + 1,some x,by omega,rfl,((((((((hf.nilOf).cons (d:=2) (hf.at_ 2 _ rfl)).cons (d:=1) (hf.at_ 1 _ rfl)).cons (d:=3) (hf.at_ 3 _ rfl)).cons (d:=6) (hf.at_ 6 _ rfl)).cons (d:=8) (hf.at_ 8 _ rfl)).cons (d:=9) (hf.at_ 9 _ rfl)).cons (d:=10) (hf.at_ 10 _ rfl)),⟨by rw [HX.out];exact hv⟩,hA3,(hM3.block _ (blk_lt h6') (by omega)).trans h6',(hM3.block _ (blk_lt h3') (by omega)).trans h3',hB3⟩
  · have hke : k = C.arts.length:=by omega
    have HE:=Aside.mk (show r = verO C.arts art min by have:=HR.out;rwa [hke,List.take_length] at this);have h3c:=blk_cell h3 1 (v:=.slice A C.arts.length c) rfl;refine wp_seq_k ?_;intro _ _;refine wp_seq_k ?_;intro _ _;refine wp_region_lit ?_;refine a_move hf rfl rfl rfl ?_;clear hf;intro _ hf;refine a_field hf rfl rfl rfl rfl ?_;clear hf;intro _ hf;refine a_load hf rfl rfl rfl (by exact h3c) rfl ?_;clear hf;intro _ hf;refine a_len hf rfl rfl rfl rfl ?_;clear hf;intro _ hf;refine a_cmp (b:=false) hf rfl rfl rfl rfl rfl (by first | assumption | ((try dsimp only);simp only [bq1,bq2,bq3,bq4,bq5,bq6,bq7] <;> omega)) rfl ?_;clear hf;intro _ hf;refine wpList_nil ?_;simp only [Exit.then,Exit.inBlock];go_step;refine c_condF hf rfl ?_;refine wp_exit ?_;simp only [Exit.then,Exit.inBlock,↓reduceIte];go_step;refine wp_seq_k ?_;intro _ _;refine wp_region_lit ?_;refine a_load71b hf rfl rfl (by exact h8) rfl ?_;clear hf;intro _ hf;refine a_move hf rfl rfl rfl ?_;clear hf;intro _ hf;refine a_store71 (X:=r.getD zeroArt) hf rfl rfl rfl h6 rfl ?_;clear hf;intro _ w3 hf hA3 hM3;refine a_assign hf rfl rfl rfl ?_;clear hf;intro _ hf;refine wpList_nil ?_;simp only [Exit.then,Exit.inBlock];go_step;refine wp_ret ?_;refine bodyPost_ret (art_result rfl _ _ _ (.bool r.isSome) (r.getD zeroArt) (hf.at_ 6 _ rfl) (hf.at_ 7 _ rfl) hA3) hf.defers ⟨ret_eq ?_,bel_modG hB hM3 (by omega)⟩;rw [HE.out]
end Go.Proofs.Ytpadgcomncljmaa.A
