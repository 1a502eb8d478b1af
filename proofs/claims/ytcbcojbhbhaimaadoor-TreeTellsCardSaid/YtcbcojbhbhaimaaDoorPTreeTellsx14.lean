import Derived.Test.YtcbcojbhbhaimaaDoorPTreeTellsx0
namespace Go.Proofs.YtcbcojbhbhaimaaDoor.PTreeTells
open Go.RowKit Go.Proofs.YtcbcojbhbhaimaaDoorW.PrintWords Go.Proofs.YtcbcojbhbhaimaaDoorW.PrintLast Go.Proofs.YtcbcojbhbhaimaaDoorW.PrintMore
attribute [local go_sem high] c_add c_eql c_neq
attribute [local go_sem] f_store_c f_store_f f_add f_toint f_fold_eq f_fold_ne f_fold_lt f_fold_gt f_fold_le f_fold_ge
attribute [local go_sem] str_leq str_gtr str_geq max2_int min2_int max_two min_two max_three min_three max_four min_four   -- for this text's walks alone
set_option linter.unusedVariables false
set_option linter.unusedSimpArgs false

/-! ### cr18_point: function 77 -/
mutual
def cr18_point.j0 : Nat → ByteArray → Int → Int → Int → Int → Bool → Option (Int)
 | 0, _, _, _, _, _, _ => none
 | k + 1, x0, x3, x4, x5, x6, x18 => if x18 = true then (cr18_point.j1 k x0 x3 (wrap64 (x3 - 192)) 1 128) else (cr18_point.j1 k x0 x3 x4 x5 x6)
def cr18_point.j1 : Nat → ByteArray → Int → Int → Int → Int → Option (Int)
 | 0, _, _, _, _, _ => none
 | k + 1, x0, x3, x4, x5, x6 => if x3 ≥ 224 then (cr18_point.j2 k x0 x3 x4 x5 x6 (decide (x3 < 240))) else (cr18_point.j2 k x0 x3 x4 x5 x6 false)
def cr18_point.j2 : Nat → ByteArray → Int → Int → Int → Int → Bool → Option (Int)
 | 0, _, _, _, _, _, _ => none
 | k + 1, x0, x3, x4, x5, x6, x26 => if x26 = true then (cr18_point.j3 k x0 x3 (wrap64 (x3 - 224)) 2 2048) else (cr18_point.j3 k x0 x3 x4 x5 x6)
def cr18_point.j3 : Nat → ByteArray → Int → Int → Int → Int → Option (Int)
 | 0, _, _, _, _, _ => none
 | k + 1, x0, x3, x4, x5, x6 => if x3 ≥ 240 then (cr18_point.j4 k x0 x3 x4 x5 x6 (decide (x3 < 248))) else (cr18_point.j4 k x0 x3 x4 x5 x6 false)
def cr18_point.j4 : Nat → ByteArray → Int → Int → Int → Int → Bool → Option (Int)
 | 0, _, _, _, _, _, _ => none
 | k + 1, x0, x3, x4, x5, x6, x34 => if x34 = true then (cr18_point.j5 k x0 (wrap64 (x3 - 240)) 3 65536) else (cr18_point.j5 k x0 x4 x5 x6)
def cr18_point.j5 : Nat → ByteArray → Int → Int → Int → Option (Int)
 | 0, _, _, _, _ => none
 | k + 1, x0, x4, x5, x6 => if x5 = 0 then (cr18_point.j6 k x0 x4 x5 x6 true) else (cr18_point.j6 k x0 x4 x5 x6 (decide ((x0.size : Int) ≤ x5)))
def cr18_point.j6 : Nat → ByteArray → Int → Int → Int → Bool → Option (Int)
 | 0, _, _, _, _, _ => none
 | k + 1, x0, x4, x5, x6, x44 => if x44 = true then (some 0) else (cr18_point.l0 k x0 x4 x5 x6 1)
def cr18_point.l0 : Nat → ByteArray → Int → Int → Int → Int → Option (Int)
 | 0, _, _, _, _, _ => none
 | k + 1, x0, x4, x5, x6, x7 => if x7 ≤ x5 then (if 0 ≤ x7 then (if x7 < (x0.size : Int) then (if (bt x0 x7) < 128 then (some 0) else (if (bt x0 x7) > 191 then (some 0) else (cr18_point.l0 k x0 (wrap64 ((wrap64 ((wrap64 (64 * x4)) + (wrap64 (bt x0 x7)))) - 128)) x5 x6 (wrap64 (x7 + 1))))) else (none)) else (none)) else (if x4 < x6 then (some 0) else (if x4 > 1114111 then (some 0) else (if x4 > 55295 then (if x4 < 57344 then (some 0) else (some (wrap64 (x5 + 1)))) else (some (wrap64 (x5 + 1))))))
end
def cr18_point.f (k : Nat) (a0 : ByteArray) : Option (Int) := if 0 < (a0.size : Int) then (if (wrap64 (bt a0 0)) < 128 then (some 1) else (if (wrap64 (bt a0 0)) ≥ 192 then (cr18_point.j0 k a0 (wrap64 (bt a0 0)) 0 0 0 (decide ((wrap64 (bt a0 0)) < 224))) else (cr18_point.j0 k a0 (wrap64 (bt a0 0)) 0 0 0 false))) else (none)
theorem cr18_point.mono_l : ∀ k, (∀ y0 y1 y2 y3 y4 y5, LeO (cr18_point.j0 k y0 y1 y2 y3 y4 y5) (cr18_point.j0 (k + 1) y0 y1 y2 y3 y4 y5)) ∧ (∀ y0 y1 y2 y3 y4, LeO (cr18_point.j1 k y0 y1 y2 y3 y4) (cr18_point.j1 (k + 1) y0 y1 y2 y3 y4)) ∧ (∀ y0 y1 y2 y3 y4 y5, LeO (cr18_point.j2 k y0 y1 y2 y3 y4 y5) (cr18_point.j2 (k + 1) y0 y1 y2 y3 y4 y5)) ∧ (∀ y0 y1 y2 y3 y4, LeO (cr18_point.j3 k y0 y1 y2 y3 y4) (cr18_point.j3 (k + 1) y0 y1 y2 y3 y4)) ∧ (∀ y0 y1 y2 y3 y4 y5, LeO (cr18_point.j4 k y0 y1 y2 y3 y4 y5) (cr18_point.j4 (k + 1) y0 y1 y2 y3 y4 y5)) ∧ (∀ y0 y1 y2 y3, LeO (cr18_point.j5 k y0 y1 y2 y3) (cr18_point.j5 (k + 1) y0 y1 y2 y3)) ∧ (∀ y0 y1 y2 y3 y4, LeO (cr18_point.j6 k y0 y1 y2 y3 y4) (cr18_point.j6 (k + 1) y0 y1 y2 y3 y4)) ∧ (∀ y0 y1 y2 y3 y4, LeO (cr18_point.l0 k y0 y1 y2 y3 y4) (cr18_point.l0 (k + 1) y0 y1 y2 y3 y4))
 | 0 => ⟨fun _ _ _ _ _ _ r h => by simp [cr18_point.j0] at h, fun _ _ _ _ _ r h => by simp [cr18_point.j1] at h, fun _ _ _ _ _ _ r h => by simp [cr18_point.j2] at h, fun _ _ _ _ _ r h => by simp [cr18_point.j3] at h, fun _ _ _ _ _ _ r h => by simp [cr18_point.j4] at h, fun _ _ _ _ r h => by simp [cr18_point.j5] at h, fun _ _ _ _ _ r h => by simp [cr18_point.j6] at h, fun _ _ _ _ _ r h => by simp [cr18_point.l0] at h⟩
 | k + 1 => by
  obtain ⟨ih0, ih1, ih2, ih3, ih4, ih5, ih6, ih7⟩ := cr18_point.mono_l k
  refine ⟨?_, ?_, ?_, ?_, ?_, ?_, ?_, ?_⟩ <;> intros <;> first | unfold cr18_point.j0 | unfold cr18_point.j1 | unfold cr18_point.j2 | unfold cr18_point.j3 | unfold cr18_point.j4 | unfold cr18_point.j5 | unfold cr18_point.j6 | unfold cr18_point.l0
  all_goals repeat' first
  | (with_reducible first | exact ih0 _ _ _ _ _ _ | exact ih1 _ _ _ _ _ | exact ih2 _ _ _ _ _ _ | exact ih3 _ _ _ _ _ | exact ih4 _ _ _ _ _ _ | exact ih5 _ _ _ _ | exact ih6 _ _ _ _ _ | exact ih7 _ _ _ _ _ | exact LeO.refl _ | exact LeO.none _ | refine LeO.ite ?_ ?_ | refine LeO.bind ?_ (fun _ => ?_))
  | exact ih0 _ _ _ _ _ _
  | exact ih1 _ _ _ _ _
  | exact ih2 _ _ _ _ _ _
  | exact ih3 _ _ _ _ _
  | exact ih4 _ _ _ _ _ _
  | exact ih5 _ _ _ _
  | exact ih6 _ _ _ _ _
  | exact ih7 _ _ _ _ _
  | exact LeO.none _
  | refine LeO.ite ?_ ?_
  | refine LeO.bind ?_ (fun _ => ?_)
theorem cr18_point.mono : ∀ a0 k, LeO (cr18_point.f k a0) (cr18_point.f (k + 1) a0) := by
 intro a0 k
 obtain ⟨ih0, ih1, ih2, ih3, ih4, ih5, ih6, ih7⟩ := cr18_point.mono_l k
 unfold cr18_point.f
 repeat' first
  | (with_reducible first | exact ih0 _ _ _ _ _ _ | exact ih1 _ _ _ _ _ | exact ih2 _ _ _ _ _ _ | exact ih3 _ _ _ _ _ | exact ih4 _ _ _ _ _ _ | exact ih5 _ _ _ _ | exact ih6 _ _ _ _ _ | exact ih7 _ _ _ _ _ | exact LeO.refl _ | exact LeO.none _ | refine LeO.ite ?_ ?_ | refine LeO.bind ?_ (fun _ => ?_))
  | exact ih0 _ _ _ _ _ _
  | exact ih1 _ _ _ _ _
  | exact ih2 _ _ _ _ _ _
  | exact ih3 _ _ _ _ _
  | exact ih4 _ _ _ _ _ _
  | exact ih5 _ _ _ _
  | exact ih6 _ _ _ _ _
  | exact ih7 _ _ _ _ _
  | exact LeO.none _
  | refine LeO.ite ?_ ?_
  | refine LeO.bind ?_ (fun _ => ?_)
set_option maxHeartbeats 8000000 in
set_option maxRecDepth 100000 in
theorem cr18_point.calls (k : Nat) (a0 : ByteArray) (r : Int) (w : World) (h : cr18_point.f k a0 = some r) :
 Calls Tryd.prog 77 #[.string a0] w fun e w' => e = .returned (.int .i64 r) ∧ Drawn0 w w' := by
 have H : (if 0 < (a0.size : Int) then (if (wrap64 (bt a0 0)) < 128 then (some 1) else (if (wrap64 (bt a0 0)) ≥ 192 then (cr18_point.j0 k a0 (wrap64 (bt a0 0)) 0 0 0 (decide ((wrap64 (bt a0 0)) < 224))) else (cr18_point.j0 k a0 (wrap64 (bt a0 0)) 0 0 0 false))) else (none)) = some r := h
 clear h
 by_cases c2 : 0 < (a0.size : Int)
 case neg =>
  rw [if_neg c2] at H
  exact absurd H (by simp)
 rw [if_pos c2] at H
 have c2b0 : decide (0 < (a0.size : Int)) = true := decide_eq_true c2
 have c2b1 : decide (0 < a0.size) = true := decide_eq_true (by omega)
 clear c2
 by_cases c4 : (wrap64 (bt a0 0)) < 128
 case pos =>
  rw [if_pos c4] at H
  have c4b0 : decide ((wrap64 (bt a0 0)) < 128) = true := decide_eq_true c4
  clear c4
  obtain rfl := Option.some.inj H
  have p3 : 0 ≤ (0 : Int) := (by omega)
  have q3 : 0 < a0.size := (by have : (0 : Int) < (a0.size : Int) := odt; omega)
  have hx3 : ∀ h : 0 < a0.size, ((a0[0]'h).toNat : Int) = bt a0 0 := bt_at a0 0
  clear p3
  have qi3 : (0 < (a0.size : Int)) = True := eq_true odt
  replace q3 := eq_true q3
  go_enter Tryd.func77, Tryd.ntmps77
  go_wp2
  go_ret
  exact ⟨rsd, drw⟩
 rw [if_neg c4] at H
 have c4b0 : decide ((wrap64 (bt a0 0)) < 128) = false := decide_eq_false c4
 clear c4
 have HC5 := Aside0.mk H
 clear H
 have p3 : 0 ≤ (0 : Int) := (by omega)
 have q3 : 0 < a0.size := (by have : (0 : Int) < (a0.size : Int) := odt; omega)
 have hx3 : ∀ h : 0 < a0.size, ((a0[0]'h).toNat : Int) = bt a0 0 := bt_at a0 0
 clear p3
 have qi3 : (0 < (a0.size : Int)) = True := eq_true odt
 replace q3 := eq_true q3
 go_enter Tryd.func77, Tryd.ntmps77
 go_upto_region 5 with (fail)
 go_cut [18] (fun v18 wc => ∃ (kq : Nat) (x18_4 : Bool), v18 = .bool x18_4 ∧ Aside0 (cr18_point.j0 kq a0 (wrap64 (bt a0 0)) 0 0 0 x18_4 = some r) ∧ Aside0 (kq ≤ k) ∧ Drawn0 w wc)
 case first =>
  have H := HC5.out
  clear HC5
  by_cases c6 : (wrap64 (bt a0 0)) ≥ 192
  case neg =>
   rw [if_neg c6] at H
   have c6b0 : decide (192 ≤ (wrap64 (bt a0 0))) = false := decide_eq_false c6
   clear c6
   (first | rw [c6b0] | (simp only [i64_w, i32_w]; rw [c6b0]) | rw [c6b1] | skip)
   have H' := Aside0.mk H
   clear H
   go_wp2
   go_meet
   case rel => exact ⟨_, (false), rsd, H', ⟨by first | omega | exact Nat.le_refl _⟩, drw⟩
  rw [if_pos c6] at H
  have c6b0 : decide (192 ≤ (wrap64 (bt a0 0))) = true := decide_eq_true c6
  clear c6
  (first | rw [c6b0] | (simp only [i64_w, i32_w]; rw [c6b0]) | rw [c6b1] | skip)
  have H' := Aside0.mk H
  clear H
  go_wp2
  go_meet
  case rel => exact ⟨_, (decide ((wrap64 (bt a0 0)) < 224)), rsd, H', ⟨by first | omega | exact Nat.le_refl _⟩, drw⟩
 case rest =>
  clear HC5
  try clear c2
  try clear c2b0
  try clear c2b1
  try clear p3
  try clear q3
  try clear hx3
  try clear qi3
  try clear c4
  try clear c4b0
  try clear c6
  try clear c6b0
  try clear c6b1
  try clear p3
  try clear q3
  obtain ⟨kq, x18_4, rfl, HA, HJ4, ⟨mc4, rfl⟩⟩ := hcut
  cases kq with
  | zero => exact absurd HA.out (by simp [cr18_point.j0])
  | succ kj4 =>
   have H := HA.out
   clear HA
   simp only [cr18_point.j0] at H
   have HC7 := Aside0.mk H
   clear H
   go_upto_if 18 with (fail)
   go_cut [4, 5, 6] (fun v4 v5 v6 wc => ∃ (kq : Nat) (x4_6 : Int) (x5_6 : Int) (x6_6 : Int), v4 = .int .i64 x4_6 ∧ v5 = .int .i64 x5_6 ∧ v6 = .int .i64 x6_6 ∧ Aside0 (cr18_point.j1 kq a0 (wrap64 (bt a0 0)) x4_6 x5_6 x6_6 = some r) ∧ Aside0 (kq ≤ kj4) ∧ Drawn0 w wc)
   case first =>
    have H := HC7.out
    clear HC7
    by_cases c8 : x18_4 = true
    case pos =>
     subst c8
     have H1 : (cr18_point.j1 kj4 a0 (wrap64 (bt a0 0)) (wrap64 ((wrap64 (bt a0 0)) - 192)) 1 128) = some r := by rw [if_pos rfl] at H; exact H
     clear H
     have H := H1
     clear H1
     have H' := Aside0.mk H
     clear H
     go_wp2
     go_meet
     case rel => exact ⟨_, (wrap64 ((wrap64 (bt a0 0)) - 192)), (1), (128), rsd, rsd, rsd, H', ⟨by have := HJ4.out; first | omega | exact Nat.le_refl _⟩, drw⟩
    replace c8 := Bool.eq_false_iff.mpr c8
    subst c8
    have H1 : (cr18_point.j1 kj4 a0 (wrap64 (bt a0 0)) 0 0 0) = some r := by rw [if_neg (show ¬ (false = true) by decide)] at H; exact H
    clear H
    have H := H1
    clear H1
    have H' := Aside0.mk H
    clear H
    go_wp2
    go_meet
    case rel => exact ⟨_, (0), (0), (0), rsd, rsd, rsd, H', ⟨by have := HJ4.out; first | omega | exact Nat.le_refl _⟩, drw⟩
   case rest =>
    clear HC7
    try clear c2
    try clear c2b0
    try clear c2b1
    try clear p3
    try clear q3
    try clear hx3
    try clear qi3
    try clear c4
    try clear c4b0
    try clear c6
    try clear c6b0
    try clear c6b1
    try clear c8
    try clear p3
    try clear q3
    obtain ⟨kq, x4_6, x5_6, x6_6, rfl, rfl, rfl, HA, HJ6, ⟨mc6, rfl⟩⟩ := hcut
    cases kq with
    | zero => exact absurd HA.out (by simp [cr18_point.j1])
    | succ kj6 =>
     have H := HA.out
     clear HA
     simp only [cr18_point.j1] at H
     have HC9 := Aside0.mk H
     clear H
     go_upto_region 7 with (fail)
     go_cut [26] (fun v26 wc => ∃ (kq : Nat) (x26_8 : Bool), v26 = .bool x26_8 ∧ Aside0 (cr18_point.j2 kq a0 (wrap64 (bt a0 0)) x4_6 x5_6 x6_6 x26_8 = some r) ∧ Aside0 (kq ≤ kj6) ∧ Drawn0 w wc)
     case first =>
      have H := HC9.out
      clear HC9
      by_cases c10 : (wrap64 (bt a0 0)) ≥ 224
      case neg =>
       rw [if_neg c10] at H
       have c10b0 : decide (224 ≤ (wrap64 (bt a0 0))) = false := decide_eq_false c10
       clear c10
       (first | rw [c10b0] | (simp only [i64_w, i32_w]; rw [c10b0]) | rw [c10b1] | skip)
       have H' := Aside0.mk H
       clear H
       go_wp2
       go_meet
       case rel => exact ⟨_, (false), rsd, H', ⟨by have := HJ4.out; have := HJ6.out; first | omega | exact Nat.le_refl _⟩, drw⟩
      rw [if_pos c10] at H
      have c10b0 : decide (224 ≤ (wrap64 (bt a0 0))) = true := decide_eq_true c10
      clear c10
      (first | rw [c10b0] | (simp only [i64_w, i32_w]; rw [c10b0]) | rw [c10b1] | skip)
      have H' := Aside0.mk H
      clear H
      go_wp2
      go_meet
      case rel => exact ⟨_, (decide ((wrap64 (bt a0 0)) < 240)), rsd, H', ⟨by have := HJ4.out; have := HJ6.out; first | omega | exact Nat.le_refl _⟩, drw⟩
     case rest =>
      clear HC9
      try clear c2
      try clear c2b0
      try clear c2b1
      try clear p3
      try clear q3
      try clear hx3
      try clear qi3
      try clear c4
      try clear c4b0
      try clear c6
      try clear c6b0
      try clear c6b1
      try clear c8
      try clear c10
      try clear c10b0
      try clear c10b1
      try clear p3
      try clear q3
      obtain ⟨kq, x26_8, rfl, HA, HJ8, ⟨mc8, rfl⟩⟩ := hcut
      cases kq with
      | zero => exact absurd HA.out (by simp [cr18_point.j2])
      | succ kj8 =>
       have H := HA.out
       clear HA
       simp only [cr18_point.j2] at H
       have HC11 := Aside0.mk H
       clear H
       go_upto_if 26 with (fail)
       go_cut [4, 5, 6] (fun v4 v5 v6 wc => ∃ (kq : Nat) (x4_10 : Int) (x5_10 : Int) (x6_10 : Int), v4 = .int .i64 x4_10 ∧ v5 = .int .i64 x5_10 ∧ v6 = .int .i64 x6_10 ∧ Aside0 (cr18_point.j3 kq a0 (wrap64 (bt a0 0)) x4_10 x5_10 x6_10 = some r) ∧ Aside0 (kq ≤ kj8) ∧ Drawn0 w wc)
       case first =>
        have H := HC11.out
        clear HC11
        by_cases c12 : x26_8 = true
        case pos =>
         subst c12
         have H1 : (cr18_point.j3 kj8 a0 (wrap64 (bt a0 0)) (wrap64 ((wrap64 (bt a0 0)) - 224)) 2 2048) = some r := by rw [if_pos rfl] at H; exact H
         clear H
         have H := H1
         clear H1
         have H' := Aside0.mk H
         clear H
         go_wp2
         go_meet
         case rel => exact ⟨_, (wrap64 ((wrap64 (bt a0 0)) - 224)), (2), (2048), rsd, rsd, rsd, H', ⟨by have := HJ4.out; have := HJ6.out; have := HJ8.out; first | omega | exact Nat.le_refl _⟩, drw⟩
        replace c12 := Bool.eq_false_iff.mpr c12
        subst c12
        have H1 : (cr18_point.j3 kj8 a0 (wrap64 (bt a0 0)) x4_6 x5_6 x6_6) = some r := by rw [if_neg (show ¬ (false = true) by decide)] at H; exact H
        clear H
        have H := H1
        clear H1
        have H' := Aside0.mk H
        clear H
        go_wp2
        go_meet
        case rel => exact ⟨_, (x4_6), (x5_6), (x6_6), rsd, rsd, rsd, H', ⟨by have := HJ4.out; have := HJ6.out; have := HJ8.out; first | omega | exact Nat.le_refl _⟩, drw⟩
       case rest =>
        clear HC11
        try clear c2
        try clear c2b0
        try clear c2b1
        try clear p3
        try clear q3
        try clear hx3
        try clear qi3
        try clear c4
        try clear c4b0
        try clear c6
        try clear c6b0
        try clear c6b1
        try clear c8
        try clear c10
        try clear c10b0
        try clear c10b1
        try clear c12
        try clear p3
        try clear q3
        obtain ⟨kq, x4_10, x5_10, x6_10, rfl, rfl, rfl, HA, HJ10, ⟨mc10, rfl⟩⟩ := hcut
        cases kq with
        | zero => exact absurd HA.out (by simp [cr18_point.j3])
        | succ kj10 =>
         have H := HA.out
         clear HA
         simp only [cr18_point.j3] at H
         have HC13 := Aside0.mk H
         clear H
         go_upto_region 9 with (fail)
         go_cut [34] (fun v34 wc => ∃ (kq : Nat) (x34_12 : Bool), v34 = .bool x34_12 ∧ Aside0 (cr18_point.j4 kq a0 (wrap64 (bt a0 0)) x4_10 x5_10 x6_10 x34_12 = some r) ∧ Aside0 (kq ≤ kj10) ∧ Drawn0 w wc)
         case first =>
          have H := HC13.out
          clear HC13
          by_cases c14 : (wrap64 (bt a0 0)) ≥ 240
          case neg =>
           rw [if_neg c14] at H
           have c14b0 : decide (240 ≤ (wrap64 (bt a0 0))) = false := decide_eq_false c14
           clear c14
           (first | rw [c14b0] | (simp only [i64_w, i32_w]; rw [c14b0]) | rw [c14b1] | skip)
           have H' := Aside0.mk H
           clear H
           go_wp2
           go_meet
           case rel => exact ⟨_, (false), rsd, H', ⟨by have := HJ4.out; have := HJ6.out; have := HJ8.out; have := HJ10.out; first | omega | exact Nat.le_refl _⟩, drw⟩
          rw [if_pos c14] at H
          have c14b0 : decide (240 ≤ (wrap64 (bt a0 0))) = true := decide_eq_true c14
          clear c14
          (first | rw [c14b0] | (simp only [i64_w, i32_w]; rw [c14b0]) | rw [c14b1] | skip)
          have H' := Aside0.mk H
          clear H
          go_wp2
          go_meet
          case rel => exact ⟨_, (decide ((wrap64 (bt a0 0)) < 248)), rsd, H', ⟨by have := HJ4.out; have := HJ6.out; have := HJ8.out; have := HJ10.out; first | omega | exact Nat.le_refl _⟩, drw⟩
         case rest =>
          clear HC13
          try clear c2
          try clear c2b0
          try clear c2b1
          try clear p3
          try clear q3
          try clear hx3
          try clear qi3
          try clear c4
          try clear c4b0
          try clear c6
          try clear c6b0
          try clear c6b1
          try clear c8
          try clear c10
          try clear c10b0
          try clear c10b1
          try clear c12
          try clear c14
          try clear c14b0
          try clear c14b1
          try clear p3
          try clear q3
          obtain ⟨kq, x34_12, rfl, HA, HJ12, ⟨mc12, rfl⟩⟩ := hcut
          cases kq with
          | zero => exact absurd HA.out (by simp [cr18_point.j4])
          | succ kj12 =>
           have H := HA.out
           clear HA
           simp only [cr18_point.j4] at H
           have HC15 := Aside0.mk H
           clear H
           go_upto_if 34 with (fail)
           go_cut [4, 5, 6] (fun v4 v5 v6 wc => ∃ (kq : Nat) (x4_14 : Int) (x5_14 : Int) (x6_14 : Int), v4 = .int .i64 x4_14 ∧ v5 = .int .i64 x5_14 ∧ v6 = .int .i64 x6_14 ∧ Aside0 (cr18_point.j5 kq a0 x4_14 x5_14 x6_14 = some r) ∧ Aside0 (kq ≤ kj12) ∧ Drawn0 w wc)
           case first =>
            have H := HC15.out
            clear HC15
            by_cases c16 : x34_12 = true
            case pos =>
             subst c16
             have H1 : (cr18_point.j5 kj12 a0 (wrap64 ((wrap64 (bt a0 0)) - 240)) 3 65536) = some r := by rw [if_pos rfl] at H; exact H
             clear H
             have H := H1
             clear H1
             have H' := Aside0.mk H
             clear H
             go_wp2
             go_meet
             case rel => exact ⟨_, (wrap64 ((wrap64 (bt a0 0)) - 240)), (3), (65536), rsd, rsd, rsd, H', ⟨by have := HJ4.out; have := HJ6.out; have := HJ8.out; have := HJ10.out; have := HJ12.out; first | omega | exact Nat.le_refl _⟩, drw⟩
            replace c16 := Bool.eq_false_iff.mpr c16
            subst c16
            have H1 : (cr18_point.j5 kj12 a0 x4_10 x5_10 x6_10) = some r := by rw [if_neg (show ¬ (false = true) by decide)] at H; exact H
            clear H
            have H := H1
            clear H1
            have H' := Aside0.mk H
            clear H
            go_wp2
            go_meet
            case rel => exact ⟨_, (x4_10), (x5_10), (x6_10), rsd, rsd, rsd, H', ⟨by have := HJ4.out; have := HJ6.out; have := HJ8.out; have := HJ10.out; have := HJ12.out; first | omega | exact Nat.le_refl _⟩, drw⟩
           case rest =>
            clear HC15
            try clear c2
            try clear c2b0
            try clear c2b1
            try clear p3
            try clear q3
            try clear hx3
            try clear qi3
            try clear c4
            try clear c4b0
            try clear c6
            try clear c6b0
            try clear c6b1
            try clear c8
            try clear c10
            try clear c10b0
            try clear c10b1
            try clear c12
            try clear c14
            try clear c14b0
            try clear c14b1
            try clear c16
            try clear p3
            try clear q3
            obtain ⟨kq, x4_14, x5_14, x6_14, rfl, rfl, rfl, HA, HJ14, ⟨mc14, rfl⟩⟩ := hcut
            cases kq with
            | zero => exact absurd HA.out (by simp [cr18_point.j5])
            | succ kj14 =>
             have H := HA.out
             clear HA
             simp only [cr18_point.j5] at H
             have HC17 := Aside0.mk H
             clear H
             go_upto_region 11 with (fail)
             go_cut [44] (fun v44 wc => ∃ (kq : Nat) (x44_16 : Bool), v44 = .bool x44_16 ∧ Aside0 (cr18_point.j6 kq a0 x4_14 x5_14 x6_14 x44_16 = some r) ∧ Aside0 (kq ≤ kj14) ∧ Drawn0 w wc)
             case first =>
              have H := HC17.out
              clear HC17
              by_cases c18 : x5_14 = 0
              case neg =>
               rw [if_neg c18] at H
               have c18b0 : (x5_14 == 0) = false := beq_eq_false_iff_ne.mpr c18
               have c18b1 : (x5_14 != 0) = true := bne_iff_ne.mpr c18
               (first | rw [c18b0] | (simp only [i64_w, i32_w]; rw [c18b0]) | rw [c18b1] | skip)
               have H' := Aside0.mk H
               clear H
               go_wp2
               go_meet
               case rel => exact ⟨_, (decide ((a0.size : Int) ≤ x5_14)), rsd, H', ⟨by have := HJ4.out; have := HJ6.out; have := HJ8.out; have := HJ10.out; have := HJ12.out; have := HJ14.out; first | omega | exact Nat.le_refl _⟩, drw⟩
              rw [if_pos c18] at H
              have c18b0 : (x5_14 == 0) = true := beq_iff_eq.mpr c18
              have c18b1 : (x5_14 != 0) = false := bne_eq_false_iff_eq.mpr c18
              clear c18
              (first | rw [c18b0] | (simp only [i64_w, i32_w]; rw [c18b0]) | rw [c18b1] | skip)
              have H' := Aside0.mk H
              clear H
              go_wp2
              go_meet
              case rel => exact ⟨_, (true), rsd, H', ⟨by have := HJ4.out; have := HJ6.out; have := HJ8.out; have := HJ10.out; have := HJ12.out; have := HJ14.out; first | omega | exact Nat.le_refl _⟩, drw⟩
             case rest =>
              clear HC17
              try clear c2
              try clear c2b0
              try clear c2b1
              try clear p3
              try clear q3
              try clear hx3
              try clear qi3
              try clear c4
              try clear c4b0
              try clear c6
              try clear c6b0
              try clear c6b1
              try clear c8
              try clear c10
              try clear c10b0
              try clear c10b1
              try clear c12
              try clear c14
              try clear c14b0
              try clear c14b1
              try clear c16
              try clear c18
              try clear c18b0
              try clear c18b1
              try clear p3
              try clear q3
              obtain ⟨kq, x44_16, rfl, HA, HJ16, ⟨mc16, rfl⟩⟩ := hcut
              cases kq with
              | zero => exact absurd HA.out (by simp [cr18_point.j6])
              | succ kj16 =>
               have H := HA.out
               clear HA
               simp only [cr18_point.j6] at H
               by_cases c19 : x44_16 = true
               case pos =>
                subst c19
                have H1 : (some 0) = some r := by rw [if_pos rfl] at H; exact H
                clear H
                have H := H1
                clear H1
                obtain rfl := Option.some.inj H
                go_wp2
                go_ret
                exact ⟨rsd, drw⟩
               replace c19 := Bool.eq_false_iff.mpr c19
               subst c19
               have H1 : (cr18_point.l0 kj16 a0 x4_14 x5_14 x6_14 1) = some r := by rw [if_neg (show ¬ (false = true) by decide)] at H; exact H
               clear H
               have H := H1
               clear H1
               have H' := Aside0.mk H
               clear H
               go_wp2
               go_loopg [4, 7] kj16 (fun kq v4 v7 w' => ∃ (x4_8 : Int) (x7_8 : Int), v4 = .int .i64 x4_8 ∧ v7 = .int .i64 x7_8 ∧ Aside0 (cr18_point.l0 kq a0 x4_8 x5_14 x6_14 x7_8 = some r) ∧ Aside0 (kq ≤ kj16) ∧ Drawn0 w w')
               case atStart => exact ⟨(x4_14), (1), rsd, rsd, H', ⟨Nat.le_refl _⟩, drw⟩
               case round =>
                clear H'
                try clear c2
                try clear c2b0
                try clear c2b1
                try clear p3
                try clear q3
                try clear hx3
                try clear qi3
                try clear c4
                try clear c4b0
                try clear c6
                try clear c6b0
                try clear c6b1
                try clear c8
                try clear c10
                try clear c10b0
                try clear c10b1
                try clear c12
                try clear c14
                try clear c14b0
                try clear c14b1
                try clear c16
                try clear c18
                try clear c18b0
                try clear c18b1
                try clear c19
                try clear p3
                try clear q3
                obtain ⟨x4_8, x7_8, rfl, rfl, HA, HK8, ⟨m8, rfl⟩⟩ := hrel
                cases gk with
                | zero => exact absurd HA.out (by simp [cr18_point.l0])
                | succ k8 =>
                 have H := HA.out
                 clear HA
                 simp only [cr18_point.l0] at H
                 by_cases c20 : x7_8 ≤ x5_14
                 case neg =>
                  rw [if_neg c20] at H
                  have c20b0 : decide (x7_8 ≤ x5_14) = false := decide_eq_false c20
                  clear c20
                  by_cases c28 : x4_8 < x6_14
                  case pos =>
                   rw [if_pos c28] at H
                   have c28b0 : decide (x4_8 < x6_14) = true := decide_eq_true c28
                   clear c28
                   obtain rfl := Option.some.inj H
                   go_wp2
                   go_ret
                   exact ⟨rsd, drw⟩
                  rw [if_neg c28] at H
                  have c28b0 : decide (x4_8 < x6_14) = false := decide_eq_false c28
                  clear c28
                  by_cases c29 : x4_8 > 1114111
                  case pos =>
                   rw [if_pos c29] at H
                   have c29b0 : decide (1114111 < x4_8) = true := decide_eq_true c29
                   clear c29
                   obtain rfl := Option.some.inj H
                   go_wp2
                   go_ret
                   exact ⟨rsd, drw⟩
                  rw [if_neg c29] at H
                  have c29b0 : decide (1114111 < x4_8) = false := decide_eq_false c29
                  clear c29
                  by_cases c30 : x4_8 > 55295
                  case neg =>
                   rw [if_neg c30] at H
                   have c30b0 : decide (55295 < x4_8) = false := decide_eq_false c30
                   clear c30
                   obtain rfl := Option.some.inj H
                   go_wp2
                   go_ret
                   exact ⟨rsd, drw⟩
                  rw [if_pos c30] at H
                  have c30b0 : decide (55295 < x4_8) = true := decide_eq_true c30
                  clear c30
                  by_cases c31 : x4_8 < 57344
                  case neg =>
                   rw [if_neg c31] at H
                   have c31b0 : decide (x4_8 < 57344) = false := decide_eq_false c31
                   clear c31
                   obtain rfl := Option.some.inj H
                   go_wp2
                   go_ret
                   exact ⟨rsd, drw⟩
                  rw [if_pos c31] at H
                  have c31b0 : decide (x4_8 < 57344) = true := decide_eq_true c31
                  clear c31
                  obtain rfl := Option.some.inj H
                  go_wp2
                  go_ret
                  exact ⟨rsd, drw⟩
                 rw [if_pos c20] at H
                 have c20b0 : decide (x7_8 ≤ x5_14) = true := decide_eq_true c20
                 clear c20
                 by_cases c21 : 0 ≤ x7_8
                 case neg =>
                  rw [if_neg c21] at H
                  exact absurd H (by simp)
                 rw [if_pos c21] at H
                 have c21b0 : decide (0 ≤ x7_8) = true := decide_eq_true c21
                 clear c21
                 by_cases c22 : x7_8 < (a0.size : Int)
                 case neg =>
                  rw [if_neg c22] at H
                  exact absurd H (by simp)
                 rw [if_pos c22] at H
                 have c22b0 : decide (x7_8 < (a0.size : Int)) = true := decide_eq_true c22
                 clear c22
                 by_cases c24 : (bt a0 x7_8) < 128
                 case pos =>
                  rw [if_pos c24] at H
                  have c24b0 : decide ((bt a0 x7_8) < 128) = true := decide_eq_true c24
                  clear c24
                  obtain rfl := Option.some.inj H
                  have p23 : 0 ≤ (x7_8 : Int) := odt
                  have q23 : x7_8 < (a0.size : Int) := odt
                  have hx23 := bt_at a0 x7_8
                  replace p23 := eq_true p23
                  replace q23 := eq_true q23
                  go_wp2
                  go_ret
                  exact ⟨rsd, drw⟩
                 rw [if_neg c24] at H
                 have c24b0 : decide ((bt a0 x7_8) < 128) = false := decide_eq_false c24
                 clear c24
                 by_cases c26 : (bt a0 x7_8) > 191
                 case pos =>
                  rw [if_pos c26] at H
                  have c26b0 : decide (191 < (bt a0 x7_8)) = true := decide_eq_true c26
                  clear c26
                  obtain rfl := Option.some.inj H
                  have p23 : 0 ≤ (x7_8 : Int) := odt
                  have q23 : x7_8 < (a0.size : Int) := odt
                  have hx23 := bt_at a0 x7_8
                  replace p23 := eq_true p23
                  replace q23 := eq_true q23
                  have p25 : 0 ≤ (x7_8 : Int) := odt
                  have q25 : x7_8 < (a0.size : Int) := odt
                  have hx25 := bt_at a0 x7_8
                  replace p25 := eq_true p25
                  replace q25 := eq_true q25
                  go_wp2
                  go_ret
                  exact ⟨rsd, drw⟩
                 rw [if_neg c26] at H
                 have c26b0 : decide (191 < (bt a0 x7_8)) = false := decide_eq_false c26
                 clear c26
                 have H' := Aside0.mk H
                 clear H
                 have p23 : 0 ≤ (x7_8 : Int) := odt
                 have q23 : x7_8 < (a0.size : Int) := odt
                 have hx23 := bt_at a0 x7_8
                 replace p23 := eq_true p23
                 replace q23 := eq_true q23
                 have p25 : 0 ≤ (x7_8 : Int) := odt
                 have q25 : x7_8 < (a0.size : Int) := odt
                 have hx25 := bt_at a0 x7_8
                 replace p25 := eq_true p25
                 replace q25 := eq_true q25
                 have p27 : 0 ≤ (x7_8 : Int) := odt
                 have q27 : x7_8 < (a0.size : Int) := odt
                 have hx27 := bt_at a0 x7_8
                 replace p27 := eq_true p27
                 replace q27 := eq_true q27
                 go_wp2
                 go_roundg k8
                 case measure => have := HJ4.out; have := HJ6.out; have := HJ8.out; have := HJ10.out; have := HJ12.out; have := HJ14.out; have := HJ16.out; have := HK8.out; omega
                 case rel => exact ⟨(wrap64 ((wrap64 ((wrap64 (64 * x4_8)) + (wrap64 (bt a0 x7_8)))) - 128)), (wrap64 (x7_8 + 1)), rsd, rsd, H', ⟨by have := HJ4.out; have := HJ6.out; have := HJ8.out; have := HJ10.out; have := HJ12.out; have := HJ14.out; have := HJ16.out; have := HK8.out; omega⟩, drw⟩

/-! ### cr18_Utf: function 66 -/
def cr18_Utf.l0 : Nat → ByteArray → Option (Bool)
 | 0, _ => none
 | k + 1, x0 => if (x0.size : Int) > 0 then ((cr18_point.f k x0).bind fun t360 => (if t360 = 0 then (some false) else (if 0 ≤ t360 then (if t360 ≤ (x0.size : Int) then (cr18_Utf.l0 k (x0.extract (t360 : Int).toNat x0.size)) else (none)) else (none)))) else (some true)
def cr18_Utf.f (k : Nat) (a0 : ByteArray) : Option (Bool) := cr18_Utf.l0 k a0
theorem cr18_Utf.mono_l : ∀ k, (∀ y0, LeO (cr18_Utf.l0 k y0) (cr18_Utf.l0 (k + 1) y0))
 | 0 => fun _ r h => by simp [cr18_Utf.l0] at h
 | k + 1 => by
  have ih0 := cr18_Utf.mono_l k
  ·intro y0
   unfold cr18_Utf.l0
   repeat' first
   | (with_reducible first | exact ih0 _ | exact cr18_point.mono _ _ | exact LeO.refl _ | exact LeO.none _ | refine LeO.ite ?_ ?_ | refine LeO.bind ?_ (fun _ => ?_))
   | exact ih0 _
   | exact cr18_point.mono _ _
   | exact LeO.none _
   | refine LeO.ite ?_ ?_
   | refine LeO.bind ?_ (fun _ => ?_)
theorem cr18_Utf.mono : ∀ a0 k, LeO (cr18_Utf.f k a0) (cr18_Utf.f (k + 1) a0) := by
 intro a0 k
 have ih0 := cr18_Utf.mono_l k
 unfold cr18_Utf.f
 repeat' first
  | (with_reducible first | exact ih0 _ | exact cr18_point.mono _ _ | exact LeO.refl _ | exact LeO.none _ | refine LeO.ite ?_ ?_ | refine LeO.bind ?_ (fun _ => ?_))
  | exact ih0 _
  | exact cr18_point.mono _ _
  | exact LeO.none _
  | refine LeO.ite ?_ ?_
  | refine LeO.bind ?_ (fun _ => ?_)
set_option maxHeartbeats 8000000 in
set_option maxRecDepth 100000 in
theorem cr18_Utf.calls (k : Nat) (a0 : ByteArray) (r : Bool) (w : World) (h : cr18_Utf.f k a0 = some r) :
 Calls Tryd.prog 66 #[.string a0] w fun e w' => e = .returned (.bool r) ∧ Drawn0 w w' := by
 have H : (cr18_Utf.l0 k a0) = some r := h
 clear h
 have H' := Aside0.mk H
 clear H
 go_enter Tryd.func66, Tryd.ntmps66
 go_wp2
 go_loopg [0] k (fun kq v0 w' => ∃ (x0_1 : ByteArray), v0 = .string x0_1 ∧ Aside0 (cr18_Utf.l0 kq x0_1 = some r) ∧ Aside0 (kq ≤ k) ∧ Drawn0 w w')
 case atStart => exact ⟨(a0), rsd, H', ⟨Nat.le_refl _⟩, drw⟩
 case round =>
  clear H'
  obtain ⟨x0_1, rfl, HA, HK1, ⟨m1, rfl⟩⟩ := hrel
  cases gk with
  | zero => exact absurd HA.out (by simp [cr18_Utf.l0])
  | succ k1 =>
   have H := HA.out
   clear HA
   simp only [cr18_Utf.l0] at H
   by_cases c2 : (x0_1.size : Int) > 0
   case neg =>
    rw [if_neg c2] at H
    have c2b0 : decide (0 < (x0_1.size : Int)) = false := decide_eq_false c2
    have c2b1 : decide (0 < x0_1.size) = false := decide_eq_false (by omega)
    clear c2
    obtain rfl := Option.some.inj H
    go_wp2
    go_ret
    exact ⟨rsd, drw⟩
   rw [if_pos c2] at H
   have c2b0 : decide (0 < (x0_1.size : Int)) = true := decide_eq_true c2
   have c2b1 : decide (0 < x0_1.size) = true := decide_eq_true (by omega)
   clear c2
   replace H := Option.bind_eq_some_iff.mp H
   obtain ⟨t360, A30, H⟩ := H
   replace H : (if t360 = 0 then (some false) else (if 0 ≤ t360 then (if t360 ≤ (x0_1.size : Int) then (cr18_Utf.l0 k1 (x0_1.extract (t360 : Int).toNat x0_1.size)) else (none)) else (none))) = some r := H
   have A3 := Aside0.mk A30
   clear A30
   by_cases c4 : t360 = 0
   case pos =>
    rw [if_pos c4] at H
    have c4b0 : (t360 == 0) = true := beq_iff_eq.mpr c4
    have c4b1 : (t360 != 0) = false := bne_eq_false_iff_eq.mpr c4
    clear c4
    obtain rfl := Option.some.inj H
    go_wp2_with (first | ((with_reducible refine gate_callee (f := 77) rfl ?_); refine goesL_ (some 8) rfl rfl Tryd.func77 (by kernel_rfl) rfl #[.string x0_1] rfl gargs ?_; (with_reducible refine (cr18_point.calls k1 x0_1 t360 _ A3.out).mono ?_); rintro e w' ⟨rfl, ⟨nd, rfl⟩⟩; refine ⟨_, rfl, ?_⟩))
    go_ret
    exact ⟨rsd, drw⟩
   rw [if_neg c4] at H
   have c4b0 : (t360 == 0) = false := beq_eq_false_iff_ne.mpr c4
   have c4b1 : (t360 != 0) = true := bne_iff_ne.mpr c4
   by_cases c5 : 0 ≤ t360
   case neg =>
    rw [if_neg c5] at H
    exact absurd H (by simp)
   rw [if_pos c5] at H
   have c5b0 := eq_true c5
   have c5b1 : decide (0 ≤ t360) = true := decide_eq_true c5
   clear c5
   by_cases c6 : t360 ≤ (x0_1.size : Int)
   case neg =>
    rw [if_neg c6] at H
    exact absurd H (by simp)
   rw [if_pos c6] at H
   have c6b0 := eq_true c6
   have c6b1 : decide (t360 ≤ (x0_1.size : Int)) = true := decide_eq_true c6
   clear c6
   have H' := Aside0.mk H
   clear H
   go_wp2_with (first | ((with_reducible refine gate_callee (f := 77) rfl ?_); refine goesL_ (some 8) rfl rfl Tryd.func77 (by kernel_rfl) rfl #[.string x0_1] rfl gargs ?_; (with_reducible refine (cr18_point.calls k1 x0_1 t360 _ A3.out).mono ?_); rintro e w' ⟨rfl, ⟨nd, rfl⟩⟩; refine ⟨_, rfl, ?_⟩))
   go_roundg k1
   case measure => have := HK1.out; omega
   case rel => exact ⟨(x0_1.extract (t360 : Int).toNat x0_1.size), rsd, H', ⟨by have := HK1.out; omega⟩, drw⟩

end Go.Proofs.YtcbcojbhbhaimaaDoor.PTreeTells
