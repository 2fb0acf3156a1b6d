/- The functions that one law reaches, as Lean functions, with their walks: printed by a program of this seat (wip/tools) out of the translation. -/
import Derived.Test.YthhnfmbfgplelaaXFnMsgsx0
namespace Go.Proofs.Ythhnfmbfgplelaa.XFnMsgs
open Go.RowKit Go.Proofs.YthhnfmbfgplelaaW.PrintWords Go.Proofs.YthhnfmbfgplelaaW.PrintLast Go.Proofs.YthhnfmbfgplelaaW.PrintMore
attribute [local go_sem] max2_int min2_int max_two min_two max_three min_three max_four min_four   -- for this text's walks alone
set_option linter.unusedVariables false
set_option linter.unusedSimpArgs false

/-! ### impl_SameOid: function 112 -/
def impl_SameOid.l0 : Nat → List Int → List Int → Int → Int → Option (Bool)
 | 0, _, _, _, _ => none
 | k + 1, x0, x1, x12, x13 => if x13 < x12 then (if 0 ≤ x13 then (if x13 < (x0.length : Int) then (if x13 < (x1.length : Int) then (if (rd x0 x13) = (rd x1 x13) then (impl_SameOid.l0 k x0 x1 x12 (wrap64 (x13 + 1))) else (some false)) else (none)) else (none)) else (none)) else (some true)
def impl_SameOid.f (k : Nat) (l0 : List Int) (l1 : List Int) : Option (Bool) := if (l0.length : Int) = (l1.length : Int) then (impl_SameOid.l0 k l0 l1 (l0.length : Int) 0) else (some false)
set_option maxHeartbeats 8000000 in
set_option maxRecDepth 100000 in
theorem impl_SameOid.calls (k : Nat) (A0 : Option Addr) (c0 : Nat) (l0 : List Int) (A1 : Option Addr) (c1 : Nat) (l1 : List Int) (r : Bool) (w : World) (hr0 : Kd.C (Kd.int .i64) w A0 l0.length l0) (hc0 : l0.length ≤ c0) (hr1 : Kd.C (Kd.int .i64) w A1 l1.length l1) (hc1 : l1.length ≤ c1) (h : impl_SameOid.f k l0 l1 = some r) :
 Calls Try.prog 112 #[.slice A0 l0.length c0, .slice A1 l1.length c1] w fun e w' => e = .returned (.bool r) ∧ Drawn0 w w' := by
 have HR0 := am hr0
 have HC0 := am hc0
 clear hr0 hc0
 have HR1 := am hr1
 have HC1 := am hc1
 clear hr1 hc1
 have H := h
 clear h
 unfold impl_SameOid.f at H
 replace H := iq' H
 rcases H with ⟨c3, c3b0, c3b1, H⟩ | ⟨c3, c3b0, c3b1, H⟩
 · have c3b2 : (l0.length == l1.length) = false := by first | simpa using c3 | (simp at c3 ⊢; omega)
   obtain rfl := Option.some.inj H
   go_enter Try.func112, Try.ntmps112
   go_wp2
   go_ret
   exact ⟨by first | rfl | (simp; done) | (simp [*]; done), by repeat (first | exact Drawn0.refl _ | apply Drawn0.step)⟩
 have c3b2 : (l0.length == l1.length) = true := by first | simpa using c3 | (simp at c3 ⊢; omega)
 clear c3
 have H' := am H
 clear H
 go_enter Try.func112, Try.ntmps112
 go_wp2
 go_loopg [13] k (fun kq v13 w' => ∃ (x13_1 : Int), v13 = .int .i64 x13_1 ∧ Aside0 (impl_SameOid.l0 kq l0 l1 (l0.length : Int) x13_1 = some r) ∧ Aside0 (kq ≤ k) ∧ Drawn0 w w')
 case atStart => exact ⟨(0), sq, H', ⟨Nat.le_refl _⟩, by repeat (first | exact Drawn0.refl _ | apply Drawn0.step)⟩
 case round =>
  clear H'
  try clear c1
  try clear p2
  try clear c3
  try clear c3b0
  try clear c3b1
  try clear c3b2
  obtain ⟨x13_1, rfl, HA, HK1, ⟨m1, rfl⟩⟩ := hrel
  cases gk with
  | zero => exact absurd HA.out (by simp [impl_SameOid.l0])
  | succ k1 =>
   have H := HA.out
   clear HA
   simp only [impl_SameOid.l0] at H
   replace H := il' H
   rcases H with ⟨-, c4b0, H⟩ | ⟨-, c4b0, H⟩
   · obtain rfl := Option.some.inj H
     go_wp2
     go_ret
     exact ⟨by first | rfl | (simp; done) | (simp [*]; done), by repeat (first | exact Drawn0.refl _ | apply Drawn0.step)⟩
   replace H := nl H
   obtain ⟨-, c5b0, H⟩ := H
   replace H := nl H
   obtain ⟨-, c6b0, H⟩ := H
   replace H := nl H
   obtain ⟨-, c7b0, H⟩ := H
   replace H := iq' H
   rcases H with ⟨c8, c8b0, c8b1, H⟩ | ⟨-, c8b0, c8b1, H⟩
   · obtain rfl := Option.some.inj H
     have p314 : 0 ≤ (x13_1 : Int) := oda
     have q314 : x13_1 < (l0.length : Int) := oda
     obtain ⟨ad314, e314, hx314_0⟩ := Kd.at_int HR0.out x13_1 p314 q314
     cases e314
     replace p314 := eq_true p314
     replace q314 := eq_true q314
     have p315 : 0 ≤ (x13_1 : Int) := oda
     have q315 : x13_1 < (l1.length : Int) := oda
     obtain ⟨ad315, e315, hx315_0⟩ := Kd.at_int HR1.out x13_1 p315 q315
     cases e315
     replace p315 := eq_true p315
     replace q315 := eq_true q315
     try go_wp2
     repeat (go_quiet (fail); try go_wp2)
     go_ret
     exact ⟨by first | rfl | (simp; done) | (simp [*]; done), by repeat (first | exact Drawn0.refl _ | apply Drawn0.step)⟩
   have H' := am H
   clear H
   have p314 : 0 ≤ (x13_1 : Int) := oda
   have q314 : x13_1 < (l0.length : Int) := oda
   obtain ⟨ad314, e314, hx314_0⟩ := Kd.at_int HR0.out x13_1 p314 q314
   cases e314
   replace p314 := eq_true p314
   replace q314 := eq_true q314
   have p315 : 0 ≤ (x13_1 : Int) := oda
   have q315 : x13_1 < (l1.length : Int) := oda
   obtain ⟨ad315, e315, hx315_0⟩ := Kd.at_int HR1.out x13_1 p315 q315
   cases e315
   replace p315 := eq_true p315
   replace q315 := eq_true q315
   try go_wp2
   repeat (go_quiet (fail); try go_wp2)
   go_roundg k1
   case measure => have := HK1.out; omega
   case rel => exact ⟨(wrap64 (x13_1 + 1)), sq, H', ⟨by have := HK1.out; omega⟩, by repeat (first | exact Drawn0.refl _ | apply Drawn0.step)⟩
/-! ### impl_SameVal: function 49 -/
def impl_SameVal.f (k : Nat) (a0_0 : Int) (a0_1 : Int) (a0_2 : ByteArray) (l0_3 : List Int) (a1_0 : Int) (a1_1 : Int) (a1_2 : ByteArray) (l1_3 : List Int) : Option (Bool) := if a0_0 = a1_0 then (if a0_1 = a1_1 then (if a0_2.toList = a1_2.toList then ((impl_SameOid.f k l0_3 l1_3).bind fun t318 => (some t318)) else (some false)) else (some false)) else (some false)
set_option maxHeartbeats 8000000 in
set_option maxRecDepth 100000 in
theorem impl_SameVal.calls (k : Nat) (a0_0 : Int) (a0_1 : Int) (a0_2 : ByteArray) (A0_3 : Option Addr) (c0_3 : Nat) (l0_3 : List Int) (a1_0 : Int) (a1_1 : Int) (a1_2 : ByteArray) (A1_3 : Option Addr) (c1_3 : Nat) (l1_3 : List Int) (r : Bool) (w : World) (hr0_3 : Kd.C (Kd.int .i64) w A0_3 l0_3.length l0_3) (hc0_3 : l0_3.length ≤ c0_3) (hr1_3 : Kd.C (Kd.int .i64) w A1_3 l1_3.length l1_3) (hc1_3 : l1_3.length ≤ c1_3) (h : impl_SameVal.f k a0_0 a0_1 a0_2 l0_3 a1_0 a1_1 a1_2 l1_3 = some r) :
 Calls Try.prog 49 #[.agg #[.int .i64 a0_0, .int .i64 a0_1, .string a0_2, .slice A0_3 l0_3.length c0_3], .agg #[.int .i64 a1_0, .int .i64 a1_1, .string a1_2, .slice A1_3 l1_3.length c1_3]] w fun e w' => e = .returned (.bool r) ∧ Below w.heap.size w w' := by
 have hu29 := Try.underlying29
 have HR0_3 := am hr0_3
 have HC0_3 := am hc0_3
 clear hr0_3 hc0_3
 have HR1_3 := am hr1_3
 have HC1_3 := am hc1_3
 clear hr1_3 hc1_3
 have HB := am (Below.refl w.heap.size w)
 have H := h
 clear h
 unfold impl_SameVal.f at H
 replace H := iq' H
 rcases H with ⟨c3, c3b0, c3b1, H⟩ | ⟨-, c3b0, c3b1, H⟩
 rotate_left
 replace H := iq' H
 rcases H with ⟨c4, c4b0, c4b1, H⟩ | ⟨-, c4b0, c4b1, H⟩
 rotate_left
 replace H := iq' H
 rcases H with ⟨c5, c5b0, c5b1, H⟩ | ⟨-, c5b0, c5b1, H⟩
 rotate_left
 replace H := be H
 obtain ⟨qa1_0, Qa1, H⟩ := H
 rotate_right
 rotate_right
 rotate_right
 all_goals
  obtain rfl := Option.some.inj H
  go_enter Try.func49, Try.ntmps49
  go_wp2_with (first | ((with_reducible refine gate_dst (N := 2) rfl ?_); refine bxe 2 #[.int .i64 a0_0, .int .i64 a0_1, .string a0_2, .slice A0_3 l0_3.length c0_3] 29 ?_; intro gb316 hg w_ hbox hb; have n_ := ak4 (below_step (bq HB.out) hb) hbox (bz hg (bq HB.out)) (bz hg (bq HB.out)); clear HB; obtain ⟨HB, BK316, GW316, GE316⟩ := n_; clear hb hbox hg) | ((with_reducible refine gate_dst (N := 3) rfl ?_); refine bxe 3 #[.int .i64 a1_0, .int .i64 a1_1, .string a1_2, .slice A1_3 l1_3.length c1_3] 29 ?_; intro gb317 hg w_ hbox hb; have n_ := ak7 (kb BK316 hb) (below_step (bq1 HB.out GE316.out) hb) hbox (bz hg (bq1 HB.out GE316.out)) (bz hg (bq1 HB.out GE316.out)) (nL hg BK316) (nG hg BK316); clear BK316 HB; obtain ⟨BK316, HB, BK317, GW317, GE317, NB316_317, NB317_316⟩ := n_; clear hb hbox hg; have hNB316_317 := NB316_317.out; have hNB317_316 := NB317_316.out; obtain ⟨hcz_316_0, hcz_316_1, hcz_316_2, hcz_316_3, hfz_316_0, hfz_316_1, hfz_316_2, hfz_316_3⟩ := cl4 BK316.out; obtain ⟨hcz_317_0, hcz_317_1, hcz_317_2, hcz_317_3, hfz_317_0, hfz_317_1, hfz_317_2, hfz_317_3⟩ := cl4 BK317.out) | (go_at_call 112; refine cm (impl_SameOid.calls k _ _ l0_3 _ _ l1_3 qa1_0 _ (cq (Kd.C_below HR0_3.out HB.out)) HC0_3.out (cq (Kd.C_below HR1_3.out HB.out)) HC1_3.out Qa1.out) ?_; rintro e w' ⟨rfl, ⟨nd, rfl⟩⟩))
  go_ret
  exact ⟨rq, bq2 HB.out GE316.out GE317.out⟩
/-! ### impl_in: function 87 -/
def impl_in.f (a0 : Int) (a1 : Int) (a2 : Int) : Option (Bool) := if a0 ≥ a1 then (some (decide (a0 ≤ a2))) else (some false)
set_option maxHeartbeats 8000000 in
set_option maxRecDepth 100000 in
theorem impl_in.calls (a0 : Int) (a1 : Int) (a2 : Int) (r : Bool) (w : World) (h : impl_in.f a0 a1 a2 = some r) :
 Calls Try.prog 87 #[.int .i64 a0, .int .i64 a1, .int .i64 a2] w fun e w' => e = .returned (.bool r) ∧ Drawn0 w w' := by
 have H := h
 clear h
 unfold impl_in.f at H
 replace H := ip H
 rcases H with ⟨c4, H⟩ | ⟨c4, H⟩
 have c4b0 : decide (a1 ≤ a0) = true := decide_eq_true c4
 clear c4
 rotate_left
 have c4b0 : decide (a1 ≤ a0) = false := decide_eq_false c4
 clear c4
 rotate_right
 all_goals
  obtain rfl := Option.some.inj H
  go_enter Try.func87, Try.ntmps87
  go_wp2
  go_ret
  exact ⟨by first | rfl | (simp; done) | (simp [*]; done), by repeat (first | exact Drawn0.refl _ | apply Drawn0.step)⟩
/-! ### impl_isInt: function 107 -/
def impl_isInt.f (a0 : Int) : Option (Bool) := (impl_in.f a0 (-2147483648) 2147483647).bind fun t319 => (some t319)
set_option maxHeartbeats 8000000 in
set_option maxRecDepth 100000 in
theorem impl_isInt.calls (a0 : Int) (r : Bool) (w : World) (h : impl_isInt.f a0 = some r) :
 Calls Try.prog 107 #[.int .i64 a0] w fun e w' => e = .returned (.bool r) ∧ Drawn0 w w' := by
 have H := h
 clear h
 unfold impl_isInt.f at H
 replace H := be H
 obtain ⟨qa1_0, Qa1, H⟩ := H
 obtain rfl := Option.some.inj H
 go_enter Try.func107, Try.ntmps107
 go_wp2_with (first | ((with_reducible refine gate_callee (f := 87) rfl ?_); refine gc (some 4) (impl_in.calls a0 (-2147483648) 2147483647 qa1_0 _ Qa1.out) Try.func87 ?_; rintro e w' ⟨rfl, ⟨nd, rfl⟩⟩; refine ⟨_, rfl, ?_⟩))
 go_ret
 exact ⟨by first | rfl | (simp; done) | (simp [*]; done), by repeat (first | exact Drawn0.refl _ | apply Drawn0.step)⟩
/-! ### impl_OidOk: function 108 -/
def impl_OidOk.l0 : Nat → List Int → List Int → Int → Int → Option (Bool)
 | 0, _, _, _, _ => none
 | k + 1, x0, x5, x6, x7 => if x7 < x6 then (if 0 ≤ x7 then (if x7 < (x5.length : Int) then ((impl_in.f (rd x5 x7) 0 100000).bind fun t321 => (if t321 = true then (impl_OidOk.l0 k x0 x5 x6 (wrap64 (x7 + 1))) else (some false))) else (none)) else (none)) else ((impl_in.f (x0.length : Int) 1 10).bind fun t322 => (some t322))
def impl_OidOk.f (k : Nat) (l0 : List Int) : Option (Bool) := impl_OidOk.l0 k l0 l0 (l0.length : Int) 0
set_option maxHeartbeats 8000000 in
set_option maxRecDepth 100000 in
theorem impl_OidOk.calls (k : Nat) (A0 : Option Addr) (c0 : Nat) (l0 : List Int) (r : Bool) (w : World) (hr0 : Kd.C (Kd.int .i64) w A0 l0.length l0) (hc0 : l0.length ≤ c0) (h : impl_OidOk.f k l0 = some r) :
 Calls Try.prog 108 #[.slice A0 l0.length c0] w fun e w' => e = .returned (.bool r) ∧ Drawn0 w w' := by
 have HR0 := am hr0
 have HC0 := am hc0
 clear hr0 hc0
 have H := h
 clear h
 unfold impl_OidOk.f at H
 have H' := am H
 clear H
 go_enter Try.func108, Try.ntmps108
 go_wp2
 go_loopg [7] k (fun kq v7 w' => ∃ (x7_1 : Int), v7 = .int .i64 x7_1 ∧ Aside0 (impl_OidOk.l0 kq l0 l0 (l0.length : Int) x7_1 = some r) ∧ Aside0 (kq ≤ k) ∧ Drawn0 w w')
 case atStart => exact ⟨(0), sq, H', ⟨Nat.le_refl _⟩, by repeat (first | exact Drawn0.refl _ | apply Drawn0.step)⟩
 case round =>
  clear H'
  try clear c1
  obtain ⟨x7_1, rfl, HA, HK1, ⟨m1, rfl⟩⟩ := hrel
  cases gk with
  | zero => exact absurd HA.out (by simp [impl_OidOk.l0])
  | succ k1 =>
   have H := HA.out
   clear HA
   simp only [impl_OidOk.l0] at H
   replace H := il' H
   rcases H with ⟨-, c2b0, H⟩ | ⟨-, c2b0, H⟩
   · replace H := be H
     obtain ⟨t322, A7, H⟩ := H
     obtain rfl := Option.some.inj H
     go_wp2_with (first | ((with_reducible refine gate_callee (f := 87) rfl ?_); refine gc (some 17) (impl_in.calls (l0.length : Int) 1 10 t322 _ A7.out) Try.func87 ?_; rintro e w' ⟨rfl, ⟨nd, rfl⟩⟩; refine ⟨_, rfl, ?_⟩))
     go_ret
     exact ⟨by first | rfl | (simp; done) | (simp [*]; done), by repeat (first | exact Drawn0.refl _ | apply Drawn0.step)⟩
   replace H := nl H
   obtain ⟨-, c3b0, H⟩ := H
   replace H := nl H
   obtain ⟨-, c4b0, H⟩ := H
   replace H := be H
   obtain ⟨t321, A5, H⟩ := H
   cases t321
   · replace H := iF H
     obtain rfl := Option.some.inj H
     have p320 : 0 ≤ (x7_1 : Int) := oda
     have q320 : x7_1 < (l0.length : Int) := oda
     obtain ⟨ad320, e320, hx320_0⟩ := Kd.at_int HR0.out x7_1 p320 q320
     cases e320
     replace p320 := eq_true p320
     replace q320 := eq_true q320
     go_wp2_with (first | ((with_reducible refine gate_callee (f := 87) rfl ?_); refine gc (some 12) (impl_in.calls (rd l0 x7_1) 0 100000 false _ A5.out) Try.func87 ?_; rintro e w' ⟨rfl, ⟨nd, rfl⟩⟩; refine ⟨_, rfl, ?_⟩))
     go_ret
     exact ⟨by first | rfl | (simp; done) | (simp [*]; done), by repeat (first | exact Drawn0.refl _ | apply Drawn0.step)⟩
   replace H := iT H
   have H' := am H
   clear H
   have p320 : 0 ≤ (x7_1 : Int) := oda
   have q320 : x7_1 < (l0.length : Int) := oda
   obtain ⟨ad320, e320, hx320_0⟩ := Kd.at_int HR0.out x7_1 p320 q320
   cases e320
   replace p320 := eq_true p320
   replace q320 := eq_true q320
   go_wp2_with (first | ((with_reducible refine gate_callee (f := 87) rfl ?_); refine gc (some 12) (impl_in.calls (rd l0 x7_1) 0 100000 true _ A5.out) Try.func87 ?_; rintro e w' ⟨rfl, ⟨nd, rfl⟩⟩; refine ⟨_, rfl, ?_⟩))
   go_roundg k1
   case measure => have := HK1.out; omega
   case rel => exact ⟨(wrap64 (x7_1 + 1)), sq, H', ⟨by have := HK1.out; omega⟩, by repeat (first | exact Drawn0.refl _ | apply Drawn0.step)⟩
/-! ### impl_ValOk: function 46 -/
def impl_ValOk.f (k : Nat) (a0_0 : Int) (a0_1 : Int) (a0_2 : ByteArray) (l0_3 : List Int) : Option (Bool) := if a0_0 = 2 then ((impl_isInt.f a0_1).bind fun t325 => (if t325 = true then ((impl_SameVal.f k a0_0 a0_1 a0_2 l0_3 a0_0 a0_1 (⟨#[]⟩ : ByteArray) ([] : List Int)).bind fun t326 => (some t326)) else (some false))) else (if a0_0 = 4 then (if (a0_2.size : Int) ≤ 20 then ((impl_SameVal.f k a0_0 a0_1 a0_2 l0_3 a0_0 0 a0_2 ([] : List Int)).bind fun t327 => (some t327)) else (some false)) else (if a0_0 = 6 then ((impl_OidOk.f k l0_3).bind fun t328 => (if t328 = true then ((impl_SameVal.f k a0_0 a0_1 a0_2 l0_3 a0_0 0 (⟨#[]⟩ : ByteArray) l0_3).bind fun t329 => (some t329)) else (some false))) else (if a0_0 = 5 then ((impl_SameVal.f k a0_0 a0_1 a0_2 l0_3 a0_0 0 (⟨#[]⟩ : ByteArray) ([] : List Int)).bind fun t330 => (some t330)) else (if a0_0 = 128 then ((impl_SameVal.f k a0_0 a0_1 a0_2 l0_3 a0_0 0 (⟨#[]⟩ : ByteArray) ([] : List Int)).bind fun t331 => (some t331)) else (if a0_0 = 130 then ((impl_SameVal.f k a0_0 a0_1 a0_2 l0_3 a0_0 0 (⟨#[]⟩ : ByteArray) ([] : List Int)).bind fun t332 => (some t332)) else (some false))))))
set_option maxHeartbeats 8000000 in
set_option maxRecDepth 100000 in
theorem impl_ValOk.calls (k : Nat) (a0_0 : Int) (a0_1 : Int) (a0_2 : ByteArray) (A0_3 : Option Addr) (c0_3 : Nat) (l0_3 : List Int) (r : Bool) (w : World) (hr0_3 : Kd.C (Kd.int .i64) w A0_3 l0_3.length l0_3) (hc0_3 : l0_3.length ≤ c0_3) (h : impl_ValOk.f k a0_0 a0_1 a0_2 l0_3 = some r) :
 Calls Try.prog 46 #[.agg #[.int .i64 a0_0, .int .i64 a0_1, .string a0_2, .slice A0_3 l0_3.length c0_3]] w fun e w' => e = .returned (.bool r) ∧ Below w.heap.size w w' := by
 have hu29 := Try.underlying29
 have HR0_3 := am hr0_3
 have HC0_3 := am hc0_3
 clear hr0_3 hc0_3
 have HB := am (Below.refl w.heap.size w)
 have H := h
 clear h
 unfold impl_ValOk.f at H
 replace H := iq H
 rcases H with ⟨-, c2b0, c2b1, H⟩ | ⟨c2, c2b0, c2b1, H⟩
 replace H := be H
 obtain ⟨qa1_0, Qa1, H⟩ := H
 cases qa1_0
 replace H := iF H
 have z0 := trivial
 rotate_left
 replace H := iT H
 replace H := be H
 obtain ⟨qb1_0, Qb1, H⟩ := H
 have z1 := trivial
 rotate_right
 rotate_left 2
 replace H := iq H
 rcases H with ⟨-, c23b0, c23b1, H⟩ | ⟨c23, c23b0, c23b1, H⟩
 replace H := il' H
 rcases H with ⟨c24, c24b0, H⟩ | ⟨c24, c24b0, H⟩
 have c24b1 : decide (a0_2.size ≤ 20) = false := decide_eq_false (by omega)
 clear c24
 have z2 := trivial
 rotate_left
 have c24b1 : decide (a0_2.size ≤ 20) = true := decide_eq_true (by omega)
 clear c24
 replace H := be H
 obtain ⟨qb1_0, Qb1, H⟩ := H
 have z3 := trivial
 rotate_right
 rotate_left 2
 replace H := iq H
 rcases H with ⟨-, c43b0, c43b1, H⟩ | ⟨c43, c43b0, c43b1, H⟩
 replace H := be H
 obtain ⟨qc1_0, Qc1, H⟩ := H
 cases qc1_0
 replace H := iF H
 have z4 := trivial
 rotate_left
 replace H := iT H
 replace H := be H
 obtain ⟨qb1_0, Qb1, H⟩ := H
 have z5 := trivial
 rotate_right
 rotate_left 2
 replace H := iq H
 rcases H with ⟨-, c64b0, c64b1, H⟩ | ⟨c64, c64b0, c64b1, H⟩
 replace H := be H
 obtain ⟨qb1_0, Qb1, H⟩ := H
 have z6 := trivial
 rotate_left
 replace H := iq H
 rcases H with ⟨-, c75b0, c75b1, H⟩ | ⟨c75, c75b0, c75b1, H⟩
 replace H := be H
 obtain ⟨qb1_0, Qb1, H⟩ := H
 have z6 := trivial
 rotate_left
 replace H := iq' H
 rcases H with ⟨c86, c86b0, c86b1, H⟩ | ⟨-, c86b0, c86b1, H⟩
 have z2 := trivial
 rotate_left
 replace H := be H
 obtain ⟨qb1_0, Qb1, H⟩ := H
 have z6 := trivial
 rotate_right
 rotate_right
 rotate_right
 rotate_right 2
 rotate_right 2
 rotate_right 2
 all_goals
  obtain rfl := Option.some.inj H
  go_enter Try.func46, Try.ntmps46
  go_wp2_with (first | ((with_reducible refine gate_dst (N := 1) rfl ?_); refine bxe 1 #[.int .i64 a0_0, .int .i64 a0_1, .string a0_2, .slice A0_3 l0_3.length c0_3] 29 ?_; intro gb323 hg w_ hbox hb; have n_ := ak4 (below_step (bq HB.out) hb) hbox (bz hg (bq HB.out)) (bz hg (bq HB.out)); clear HB; obtain ⟨HB, BK323, GW323, GE323⟩ := n_; clear hb hbox hg; obtain ⟨hcz_323_0, hcz_323_1, hcz_323_2, hcz_323_3, hfz_323_0, hfz_323_1, hfz_323_2, hfz_323_3⟩ := cl4 BK323.out) | ((with_reducible refine gate_dst (N := 3) rfl ?_); refine bxe 3 #[.int .i64 0, .int .i64 0, .string (⟨#[]⟩ : ByteArray), .slice none 0 0] 29 ?_; intro gb324 hg w_ hbox hb; have n_ := ak7 (kb BK323 hb) (below_step (bq1 HB.out GE323.out) hb) hbox (bz hg (bq1 HB.out GE323.out)) (bz hg (bq1 HB.out GE323.out)) (nL hg BK323) (nG hg BK323); clear BK323 HB; obtain ⟨BK323, HB, BK324, GW324, GE324, NB323_324, NB324_323⟩ := n_; clear hb hbox hg; have hNB324_323 := NB324_323.out; have hNB323_324 := NB323_324.out; obtain ⟨hcz_324_0, hcz_324_1, hcz_324_2, hcz_324_3, hfz_324_0, hfz_324_1, hfz_324_2, hfz_324_3⟩ := cl4 BK324.out) | ((with_reducible refine gate_store (t := 29) (p := 3) rfl ?_); refine se 29 3 (s4 w_ gb324 (.int .i64 a0_0) (.int .i64 0) (.string (⟨#[]⟩ : ByteArray)) (.slice none 0 0)) ?_; intro w_ hw; have n_ := ak3 (sf4 hw BK323 NB323_324) (sc4 hw BK324) (sb hw (bq2 HB.out GE323.out GE324.out)); clear hw BK323 BK324 HB; obtain ⟨BK323, BK324, HB⟩ := n_; obtain ⟨hcz_323_0, hcz_323_1, hcz_323_2, hcz_323_3, hfz_323_0, hfz_323_1, hfz_323_2, hfz_323_3⟩ := cl4 BK323.out; obtain ⟨hcz_324_0, hcz_324_1, hcz_324_2, hcz_324_3, hfz_324_0, hfz_324_1, hfz_324_2, hfz_324_3⟩ := cl4 BK324.out) | ((with_reducible refine gate_callee (f := 107) rfl ?_); have := z0; refine gc (some 17) (impl_isInt.calls a0_1 false _ Qa1.out) Try.func107 ?_; rintro e w' ⟨rfl, ⟨nd, rfl⟩⟩; refine ⟨_, rfl, ?_⟩) | ((with_reducible refine gate_callee (f := 107) rfl ?_); have := z1; refine gc (some 17) (impl_isInt.calls a0_1 true _ Qa1.out) Try.func107 ?_; rintro e w' ⟨rfl, ⟨nd, rfl⟩⟩; refine ⟨_, rfl, ?_⟩) | (go_at_call 49; have := z5; refine cm (impl_SameVal.calls k a0_0 a0_1 a0_2 _ _ l0_3 a0_0 0 (⟨#[]⟩ : ByteArray) _ _ l0_3 qb1_0 _ (Kd.C_below HR0_3.out (bq2 HB.out GE323.out GE324.out)) HC0_3.out (Kd.C_below HR0_3.out (bq2 HB.out GE323.out GE324.out)) HC0_3.out Qb1.out) ?_; rintro e w_ ⟨rfl, hb⟩; have n_ := ak3 (blk_below (g := gb323) (o := .cells #[.int .i64 a0_0, .int .i64 a0_1, .string a0_2, .slice A0_3 l0_3.length c0_3] 29 (0, 0)) (by refine zr ?_; refine blk_far ?_ NB323_324.out _; refine zr ?_; exact BK323.out) hb) (blk_below (g := gb324) (o := .cells #[.int .i64 a0_0, .int .i64 0, .string (⟨#[]⟩ : ByteArray), .slice A0_3 l0_3.length c0_3] 29 (0, 0)) (by refine zr ?_; refine blk_put (cs := #[.int .i64 a0_0, .int .i64 0, .string (⟨#[]⟩ : ByteArray), .slice none 0 0]) ?_ 3 _ rfl; refine zr ?_; exact BK324.out) hb) (below_step (bq2 HB.out GE323.out GE324.out) hb); clear BK323 BK324 HB; obtain ⟨BK323, BK324, HB⟩ := n_; (try clear hb)) | (go_at_call 49; have := z1; refine cm (impl_SameVal.calls k a0_0 a0_1 a0_2 _ _ l0_3 a0_0 a0_1 (⟨#[]⟩ : ByteArray) _ _ ([] : List Int) qb1_0 _ (Kd.C_below HR0_3.out (bq2 HB.out GE323.out GE324.out)) HC0_3.out (Kd.C_nil _ _) (Nat.le_refl _) Qb1.out) ?_; rintro e w_ ⟨rfl, hb⟩; have n_ := ak3 (blk_below (g := gb323) (o := .cells #[.int .i64 a0_0, .int .i64 a0_1, .string a0_2, .slice A0_3 l0_3.length c0_3] 29 (0, 0)) (by refine zr ?_; refine blk_far ?_ NB323_324.out _; refine zr ?_; exact BK323.out) hb) (blk_below (g := gb324) (o := .cells #[.int .i64 a0_0, .int .i64 a0_1, .string (⟨#[]⟩ : ByteArray), .slice none 0 0] 29 (0, 0)) (by refine zr ?_; refine blk_put (cs := #[.int .i64 a0_0, .int .i64 0, .string (⟨#[]⟩ : ByteArray), .slice none 0 0]) ?_ 1 _ rfl; refine zr ?_; exact BK324.out) hb) (below_step (bq2 HB.out GE323.out GE324.out) hb); clear BK323 BK324 HB; obtain ⟨BK323, BK324, HB⟩ := n_; (try clear hb)) | (go_at_call 49; have := z3; refine cm (impl_SameVal.calls k a0_0 a0_1 a0_2 _ _ l0_3 a0_0 0 a0_2 _ _ ([] : List Int) qb1_0 _ (Kd.C_below HR0_3.out (bq2 HB.out GE323.out GE324.out)) HC0_3.out (Kd.C_nil _ _) (Nat.le_refl _) Qb1.out) ?_; rintro e w_ ⟨rfl, hb⟩; have n_ := ak3 (blk_below (g := gb323) (o := .cells #[.int .i64 a0_0, .int .i64 a0_1, .string a0_2, .slice A0_3 l0_3.length c0_3] 29 (0, 0)) (by refine zr ?_; refine blk_far ?_ NB323_324.out _; refine zr ?_; exact BK323.out) hb) (blk_below (g := gb324) (o := .cells #[.int .i64 a0_0, .int .i64 0, .string a0_2, .slice none 0 0] 29 (0, 0)) (by refine zr ?_; refine blk_put (cs := #[.int .i64 a0_0, .int .i64 0, .string (⟨#[]⟩ : ByteArray), .slice none 0 0]) ?_ 2 _ rfl; refine zr ?_; exact BK324.out) hb) (below_step (bq2 HB.out GE323.out GE324.out) hb); clear BK323 BK324 HB; obtain ⟨BK323, BK324, HB⟩ := n_; (try clear hb)) | (go_at_call 49; have := z6; refine cm (impl_SameVal.calls k a0_0 a0_1 a0_2 _ _ l0_3 a0_0 0 (⟨#[]⟩ : ByteArray) _ _ ([] : List Int) qb1_0 _ (cq (Kd.C_below HR0_3.out HB.out)) HC0_3.out (Kd.C_nil _ _) (Nat.le_refl _) Qb1.out) ?_; rintro e w_ ⟨rfl, hb⟩; have n_ := ak3 (kb BK323 hb) (kb BK324 hb) (below_step (bq2 HB.out GE323.out GE324.out) hb); clear BK323 BK324 HB; obtain ⟨BK323, BK324, HB⟩ := n_; (try clear hb)) | ((with_reducible refine gate_callee (f := 108) rfl ?_); have := z4; refine gc (some 34) (impl_OidOk.calls k _ _ l0_3 false _ (Kd.C_below HR0_3.out (bq2 HB.out GE323.out GE324.out)) HC0_3.out Qc1.out) Try.func108 ?_; rintro e w' ⟨rfl, ⟨nd, rfl⟩⟩; refine ⟨_, rfl, ?_⟩) | ((with_reducible refine gate_callee (f := 108) rfl ?_); have := z5; refine gc (some 34) (impl_OidOk.calls k _ _ l0_3 true _ (Kd.C_below HR0_3.out (bq2 HB.out GE323.out GE324.out)) HC0_3.out Qc1.out) Try.func108 ?_; rintro e w' ⟨rfl, ⟨nd, rfl⟩⟩; refine ⟨_, rfl, ?_⟩))
  go_ret
  exact ⟨rq, bq2 HB.out GE323.out GE324.out⟩
/-! ### impl_copyBytes: function 68 -/
def impl_copyBytes.f (l0 : List Int) : Option (List Int) := if ([] : List Int).length + l0.length < 140737488355328 then (some (([] : List Int) ++ l0)) else (none)
set_option maxHeartbeats 8000000 in
set_option maxRecDepth 100000 in
theorem impl_copyBytes.calls (A0 : Option Addr) (c0 : Nat) (l0 : List Int) (r : List Int) (w : World) (hr0 : Kd.C (Kd.int .u8) w A0 l0.length l0) (hc0 : l0.length ≤ c0) (h : impl_copyBytes.f l0 = some r) :
 Calls Try.prog 68 #[.slice A0 l0.length c0] w fun e w' => ∃ v0_ : Value, e = .returned (v0_) ∧ Kd.R (Kd.int .u8) 5 w' w.heap.size (fun _ => True) v0_ r ∧ Below w.heap.size w w' := by
 have HR0 := am hr0
 have HC0 := am hc0
 clear hr0 hc0
 have HB := am (Below.refl w.heap.size w)
 have H := h
 clear h
 unfold impl_copyBytes.f at H
 replace H := nq H
 obtain ⟨c2, H⟩ := H
 have LMc2 := am c2
 clear c2
 generalize hy333 : ((([] : List Int) ++ l0) : List Int) = y333 at H
 have Ny333 := am hy333.symm
 clear hy333
 obtain rfl := Option.some.inj H
 go_enter Try.func68, Try.ntmps68
 go_wp2_with (first | ((with_reducible refine gate_builtin (b := .append) (xs := #[(.const (.slice none 0 0)), .tmp 3]) rfl ?_); at_builtin; refine Kd.R_append_rows (Kd.int .u8) (w0 := w) w.heap.size rfl (.const (.slice none 0 0)) (.tmp 3) 22 5 (.int .u8 0) 1 rfl Try.underlying22 info5 rfl (by decide) (by omega) (.slice none 0 0) ([] : List Int) l0 _ _ _ (fun _ => True) (fun _ => False) rfl rfl ?aO ?aR (fun _ _ h => h) (fun _ h => h.elim) ?aF ?aB ?aS ?aL ?_; (case aR => exact cq HR0.out); (case aB => exact (bq HB.out)); (case aF => exact (fun _ _ => trivial)); (case aO => exact ((Kd.R_nil _ _ _ _ (fun _ => True)))); (case aS => exact (below_size (bq HB.out))); (case aL => have := LMc2.out; omega); intro v334 w3 ho hb hg hat; rw [← Ny333.out] at ho; have n_ := ak2 hb ho; clear HB; obtain ⟨HB, HO335⟩ := n_; clear ho hb hg hat))
 go_ret
 exact ⟨_, rq, kqR HO335.out, bq HB.out⟩
end Go.Proofs.Ythhnfmbfgplelaa.XFnMsgs
