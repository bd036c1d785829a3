-- laid by seedprint.py, a program of this session, over contracts that it gives by hand; Lean checks it
-- dented
import Derived.Test.YtpblcdafmpfemaaQMin
import Derived.Test.YtpblcdafmpfemaaQAut
import Derived.Test.YtpblcdafmpfemaaQBlk
import Derived.Test.YtpblcdafmpfemaaPFnExactProductSamex0
import Derived.Test.YtpblcdafmpfemaaPFnExactProductSamex1
namespace Go.Proofs.Ytpblcdafmpfemaa.PFnExactProductSame
open Go.RowKit Go.Proofs.YtpblcdafmpfemaaW.PrintWords Go.Proofs.YtpblcdafmpfemaaW.PrintLast Go.Proofs.YtpblcdafmpfemaaW.PrintMore
attribute [local go_sem] max2_int min2_int max_two min_two max_three min_three max_four min_four   -- for this text's walks alone
set_option maxHeartbeats 8000000
set_option maxRecDepth 100000
set_option linter.unusedVariables false
set_option linter.unusedSimpArgs false

attribute [local go_sem high] eqA82
/-! ### laws_toStringS: function 55 -/
def laws_toStringS.l0 : Nat → List ByteArray → List ByteArray → Int → Option (List ByteArray)
 | 0, _, _, _ => none
 | k + 1, x0, x3, x4 => if x4 < (x0.length : Int) then (if 0 ≤ x4 then (if x4 < (x3.length : Int) then (laws_toStringS.l0 k x0 (x3.set (x4 : Int).toNat (rdOf ByteArray.empty x0 x4)) (wrap64 (x4 + 1))) else (none)) else (none)) else (some x3)
def laws_toStringS.f (k : Nat) (l0 : List ByteArray) : Option (List ByteArray) := if 0 ≤ (l0.length : Int) then (if ((l0.length : Int) : Int).toNat ≤ 17592186044416 then (laws_toStringS.l0 k l0 (List.replicate ((l0.length : Int) : Int).toNat (⟨#[]⟩ : ByteArray)) 0) else (none)) else (none)
theorem laws_toStringS.mono_l : ∀ k, (∀ y0 y1 y2, LeO (laws_toStringS.l0 k y0 y1 y2) (laws_toStringS.l0 (k + 1) y0 y1 y2))
 | 0 => fun _ _ _ r h => by simp [laws_toStringS.l0] at h
 | k + 1 => by
  have ih0 := laws_toStringS.mono_l k
  ·intro y0 y1 y2
   unfold laws_toStringS.l0
   exact mo
theorem laws_toStringS.mono : ∀ a0 k, LeO (laws_toStringS.f k a0) (laws_toStringS.f (k + 1) a0) := by
 intro a0 k
 have ih0 := laws_toStringS.mono_l k
 unfold laws_toStringS.f
 exact mo
theorem laws_toStringS.calls (k : Nat) (A0 : Option Addr) (c0 : Nat) (l0 : List ByteArray) (r : List ByteArray) (w : World) (hr0 : Kd.C Kd.string w A0 l0.length l0) (hc0 : l0.length ≤ c0) (h : laws_toStringS.f k l0 = some r) :
  Calls Try.prog 55 #[.slice A0 l0.length c0] w fun e w' => ∃ v0_ : Value, e = .returned (v0_) ∧ Kd.R Kd.string 9 w' w.heap.size (fun _ => True) v0_ r ∧ Below w.heap.size w w' := by
 have HR0 := am hr0
 have HC0 := am hc0
 clear hr0 hc0
 have HB := am (Below.refl w.heap.size w)
 have H := h
 clear h
 unfold laws_toStringS.f at H
 revert H; refine i2 fun c2b0 c2b1 H => ?_
 revert H; refine i2 fun c3b0 c3b1 H => ?_
 generalize h_ : ((List.replicate ((l0.length : Int) : Int).toNat (⟨#[]⟩ : ByteArray)) : List ByteArray) = y121 at H
 have Ny121 := am h_.symm; clear h_
 have H' := am H; clear H
 go_enter Try.func55, Try.ntmps55
 go_wp2_with (first | ((with_reducible refine gate_dst (N := 7) rfl ?_); refine Kd.R_make Kd.string _ 9 rfl (N := 7) rfl 28 _ _ rfl (l0.length : Int) rfl rfl Try.underlying28 (.string ⟨#[]⟩) 16 info9 rfl (by decide) (by omega) (⟨#[]⟩ : ByteArray) (ok := fun _ => True) (okp := fun _ => True) rfl (fun _ hk => hk) trivial (ode) (Nat.le_trans (Nat.mul_le_mul_right _ (ode : (l0.length : Int).toNat ≤ 17592186044416)) (by omega)) (Below.refl _ _) (Nat.le_refl _) ?_; intro v122 w4 ho5 hb hg_ hnew_; clear hg_ hnew_; (first | rw [← Ny121.out] at ho5 | (simp only [Int.reduceToNat] at ho5; rw [← Ny121.out] at ho5)); have HO123 := am (Kd.R_lower ho5 (below_size bl)); replace HB := am (below_step bl hb); clear hb ho5))
 go_loopg [4] k (fun kq v4 w' => ∃ (x3_1 : List ByteArray) (x4_1 : Int), v4 = .int .i64 x4_1 ∧ Aside0 (laws_toStringS.l0 kq l0 x3_1 x4_1 = some r) ∧ Aside0 (kq ≤ k) ∧ Aside0 (Kd.R Kd.string 9 w' w.heap.size (fun _ => True) v122 x3_1) ∧ Aside0 (Below w.heap.size w w'))
 case atStart => exact ⟨(y121), (0), (by first | rfl | (simp; done) | (simp [*]; done)), H', ⟨Nat.le_refl _⟩, ⟨kr HO123.out⟩, ⟨bl⟩⟩
 case round =>
  clear H'
  try clear c2b0; try clear c2b1; try clear c3b0; try clear c3b1
  obtain ⟨x3_1, x4_1, rfl, HA, HK1, HO_3, HB⟩ := hrel
  cases gk with
  | zero => exact absurd HA.out (by simp [laws_toStringS.l0])
  | succ k1 =>
   have H := HA.out
   clear HA
   simp only [laws_toStringS.l0] at H
   revert H; refine iDb (fun c6b0 H => ?_) fun c6b0 H => ?_
   ·revert H; refine i1 fun c7b0 H => ?_
    revert H; refine i1 fun c8b0 H => ?_
    generalize h_ : ((x3_1.set (x4_1 : Int).toNat (rdOf ByteArray.empty l0 x4_1)) : List ByteArray) = y125 at H
    have Ny125 := am h_.symm; clear h_
    have H' := am H; clear H
    have p124 : 0 ≤ (x4_1 : Int) := ode
    have q124 : x4_1 < (l0.length : Int) := ode
    obtain ⟨ad124, e124, hx124_0⟩ := Kd.at_string HR0.out x4_1 p124 q124
    cases e124
    replace hx124_0 := hbc HB.out hx124_0
    replace p124 := eq_true p124
    replace q124 := eq_true q124
    have p9 : 0 ≤ (x4_1 : Int) := ode
    have q9 : (x4_1 : Int) < ((x3_1.length : Int) : Int) := ode
    obtain ⟨go9, co9, eo9, gb9, gl9, cl9, HG9⟩ := Kd.R_form HO_3.out (by omega)
    (first | cases eo9 | (injection eo9 with ea_ en_ ec_; (first | subst ea_ | (injection ea_ with ea_; subst ea_)); subst ec_; clear en_))
    have GB9 := am gb9
    have GG9 := am HG9
    clear gb9 gl9 HG9
    obtain ⟨hx9_0, hf9_0⟩ := Kd.R_celln (⟨#[]⟩ : ByteArray) HO_3.out (x4_1 : Int) p9 q9
    replace p9 := eq_true p9
    replace q9 := eq_true q9
    have HP10 := Kd.R_putg HO_3.out (x4_1 : Int) (rdOf ByteArray.empty l0 x4_1)
    go_wp2_with (first | ((with_reducible refine gate_store (t := 9) (p := 20) rfl ?_); refine store_event (t := 9) (p := 20) (v := ?vo_w11) (w1 := (wr.setCell ⟨go9, (x4_1 : Int).toNat, none⟩ (.string (rdOf ByteArray.empty l0 x4_1)))) ?hg ?ho ?hn ?hr ?_; (case ho => rfl); (case hg => rfl); (case hn => rfl); (case hr => first | (go_simp; done) | (go_simp; rfl)); intro w11 hw; have hg : wr.grownBy w11 (some go9) := (by rw [hw]; exact HP10.2); have hp_ : Kd.R Kd.string 9 w11 w.heap.size (fun _ => True) (.slice (some ⟨go9, 0, none⟩) x3_1.length co9) y125 := (by rw [hw, Ny125.out]; exact HP10.1); clear HP10; replace HO_3 := am (hp_); replace HB := am ((by rw [hw]; exact below_set (HB.out) GB9.out : Below w.heap.size w w11)); clear hg hw hp_))
    go_roundg k1
    case measure => have := HK1.out; omega
    case rel => exact ⟨(y125), (wrap64 (x4_1 + 1)), (by first | rfl | (simp; done) | (simp [*]; done)), H', ⟨by have := HK1.out; omega⟩, ⟨kr HO_3.out⟩, ⟨bl⟩⟩
   obtain rfl := Option.some.inj H
   go_wp2
   go_ret
   exact ⟨_, er, kr HO_3.out, bl⟩

/-! ### laws_toParam: function 88 -/
def laws_toParam.f (a0_0 : ByteArray) (a0_1 : Int) (a0_2 : Int) (a0_3 : Int) : Option (ByteArray × Int × Int × Int) := some (a0_0, a0_1, a0_2, a0_3)
theorem laws_toParam.calls (a0_0 : ByteArray) (a0_1 : Int) (a0_2 : Int) (a0_3 : Int) (r1 : ByteArray) (r2 : Int) (r3 : Int) (r4 : Int) (w : World) (h : laws_toParam.f a0_0 a0_1 a0_2 a0_3 = some (r1, r2, r3, r4)) :
  Calls Try.prog 88 #[.agg #[.string a0_0, .int .i64 a0_1, .int .i64 a0_2, .int .i64 a0_3]] w fun e w' => e = .returned (.agg #[.string r1, .int .i64 r2, .int .i64 r3, .int .i64 r4]) ∧ Below w.heap.size w w' := by
 have hu115 := Try.underlying115
 have hu82 := Try.underlying82
 have HB := am (Below.refl w.heap.size w)
 have H : (some (a0_0, a0_1, a0_2, a0_3)) = some (r1, r2, r3, r4) := h
 clear h
 simp only [Option.some.injEq, Prod.mk.injEq] at H
 obtain ⟨rfl, rfl, rfl, rfl⟩ := H
 go_enter Try.func88, Try.ntmps88
 go_wp2_with (first | (refine bx 1 #[.string a0_0, .int .i64 a0_1, .int .i64 a0_2, .int .i64 a0_3] 115 ?_; intro gb126 hg w2 hbox hb; have BK126 := am (hbox); have GW126 := am (bsz hg : w.heap.size ≤ gb126); have GE126 := GW126; replace HB := am (below_step bl hb); clear hb hbox hg) | (refine bx 2 #[.string (⟨#[]⟩ : ByteArray), .int .i64 0, .int .i64 0, .int .i64 0] 82 ?_; intro gb127 hg w3 hbox hb; have BK127 := am (hbox); have GW127 := am (bsz hg : w.heap.size ≤ gb127); have GE127 := GW127; have NB126_127 := am (ne1 hg BK126.out); have NB127_126 := am NB126_127.out.symm; replace BK126 := am (bkb BK126.out hb); replace HB := am (below_step bl hb); clear hb hbox hg) | (refine bx 3 #[.string (⟨#[]⟩ : ByteArray), .int .i64 0, .int .i64 0, .int .i64 0] 82 ?_; intro gb128 hg w4 hbox hb; have BK128 := am (hbox); have GW128 := am (bsz hg : w.heap.size ≤ gb128); have GE128 := GW128; have NB126_128 := am (ne1 hg BK126.out); have NB128_126 := am NB126_128.out.symm; replace BK126 := am (bkb BK126.out hb); have NB127_128 := am (ne1 hg BK127.out); have NB128_127 := am NB127_128.out.symm; replace BK127 := am (bkb BK127.out hb); replace HB := am (below_step bl hb); clear hb hbox hg; have hnb5 := NB126_127.out; have hnc5 := NB127_126.out; have hnb6 := NB126_128.out; have hnc6 := NB128_126.out; obtain ⟨z7_0, z7_1, z7_2, z7_3, y7_0, y7_1, y7_2, y7_3⟩ := blk4 BK126.out; have hnb8 := NB128_127.out; have hnc8 := NB127_128.out; obtain ⟨z9_0, z9_1, z9_2, z9_3, y9_0, y9_1, y9_2, y9_3⟩ := blk4 BK128.out; obtain ⟨z10_0, z10_1, z10_2, z10_3, y10_0, y10_1, y10_2, y10_3⟩ := blk4 BK127.out))
 refine bodyPost_ret (results_cell_row rfl _ _ gb127 82 #[.string a0_0, .int .i64 a0_1, .int .i64 a0_2, .int .i64 a0_3] (0, 0) _ rfl (bpf BK127.out NB127_128.out) Try.underlying82 rfl (by kernel_rfl)) rfl ?_
 exact ⟨er, bl⟩

/-! ### laws_toParamS: function 56 -/
def laws_toParamS.l0 : Nat → List (S115) → List (S82) → Int → Option ((List (S82)))
 | 0, _, _, _ => none
 | k + 1, x0, x3, x4 => if x4 < (x0.length : Int) then (if 0 ≤ x4 then ((laws_toParam.f ((rd_T115 x0 x4).f0) ((rd_T115 x0 x4).f1) ((rd_T115 x0 x4).f2) ((rd_T115 x0 x4).f3)).bind fun bt133 => (if x4 < (x3.length : Int) then (laws_toParamS.l0 k x0 (x3.set (x4 : Int).toNat (⟨bt133.1, bt133.2.1, bt133.2.2.1, bt133.2.2.2⟩ : S82)) (wrap64 (x4 + 1))) else (none))) else (none)) else (some x3)
def laws_toParamS.f (k : Nat) (l0 : List (S115)) : Option ((List (S82))) := if 0 ≤ (l0.length : Int) then (if ((l0.length : Int) : Int).toNat ≤ 7036874417766 then (laws_toParamS.l0 k l0 (List.replicate ((l0.length : Int) : Int).toNat z82) 0) else (none)) else (none)
theorem laws_toParamS.mono_l : ∀ k, (∀ y0 y1 y2, LeO (laws_toParamS.l0 k y0 y1 y2) (laws_toParamS.l0 (k + 1) y0 y1 y2))
 | 0 => fun _ _ _ r h => by simp [laws_toParamS.l0] at h
 | k + 1 => by
  have ih0 := laws_toParamS.mono_l k
  ·intro y0 y1 y2
   unfold laws_toParamS.l0
   exact mo
theorem laws_toParamS.mono : ∀ a0 k, LeO (laws_toParamS.f k a0) (laws_toParamS.f (k + 1) a0) := by
 intro a0 k
 have ih0 := laws_toParamS.mono_l k
 unfold laws_toParamS.f
 exact mo
theorem laws_toParamS.calls (k : Nat) (A0 : Option Addr) (c0 : Nat) (l0 : List (S115)) (r : List (S82)) (w : World) (hr0 : Kd.C k115 w A0 l0.length l0) (hc0 : l0.length ≤ c0) (h : laws_toParamS.f k l0 = some r) :
  Calls Try.prog 56 #[.slice A0 l0.length c0] w fun e w' => ∃ v0_ : Value, e = .returned (v0_) ∧ Kd.R k82 82 w' w.heap.size (fun _ => True) v0_ r ∧ Below w.heap.size w w' := by
 have hu115 := Try.underlying115
 have hu82 := Try.underlying82
 have HR0 := am hr0
 have HC0 := am hc0
 clear hr0 hc0
 have HB := am (Below.refl w.heap.size w)
 have H := h
 clear h
 unfold laws_toParamS.f at H
 revert H; refine i2 fun c2b0 c2b1 H => ?_
 revert H; refine i2 fun c3b0 c3b1 H => ?_
 generalize h_ : ((List.replicate ((l0.length : Int) : Int).toNat z82) : List (S82)) = y129 at H
 have Ny129 := am h_.symm; clear h_
 have H' := am H; clear H
 go_enter Try.func56, Try.ntmps56
 go_wp2_with (first | ((with_reducible refine gate_dst (N := 7) rfl ?_); refine Kd.R_make k82 _ 82 rfl (N := 7) rfl 38 _ _ rfl (l0.length : Int) rfl rfl Try.underlying38 (.agg #[(.string ⟨#[]⟩), (.int .i64 0), (.int .i64 0), (.int .i64 0)]) 40 info82 rfl (by decide) (by omega) z82 (ok := fun _ => True) (okp := fun _ => True) (k82_mkM _ _ _ z82 ) (fun _ hk => hk) trivial (ode) (Nat.le_trans (Nat.mul_le_mul_right _ (ode : (l0.length : Int).toNat ≤ 7036874417766)) (by omega)) (Below.refl _ _) (Nat.le_refl _) ?_; intro v130 w4 ho5 hb hg_ hnew_; clear hg_ hnew_; (first | rw [← Ny129.out] at ho5 | (simp only [Int.reduceToNat] at ho5; rw [← Ny129.out] at ho5)); have HO131 := am (Kd.R_lower ho5 (below_size bl)); replace HB := am (below_step bl hb); clear hb ho5))
 go_loopg [4] k (fun kq v4 w' => ∃ (x3_1 : List (S82)) (x4_1 : Int), v4 = .int .i64 x4_1 ∧ Aside0 (laws_toParamS.l0 kq l0 x3_1 x4_1 = some r) ∧ Aside0 (kq ≤ k) ∧ Aside0 (Kd.R k82 82 w' w.heap.size (fun _ => True) v130 x3_1) ∧ Aside0 (Below w.heap.size w w'))
 case atStart => exact ⟨(y129), (0), (by first | rfl | (simp; done) | (simp [*]; done)), H', ⟨Nat.le_refl _⟩, ⟨kr HO131.out⟩, ⟨bl⟩⟩
 case round =>
  clear H'
  try clear c2b0; try clear c2b1; try clear c3b0; try clear c3b1
  obtain ⟨x3_1, x4_1, rfl, HA, HK1, HO_3, HB⟩ := hrel
  cases gk with
  | zero => exact absurd HA.out (by simp [laws_toParamS.l0])
  | succ k1 =>
   have H := HA.out
   clear HA
   simp only [laws_toParamS.l0] at H
   revert H; refine iDb (fun c6b0 H => ?_) fun c6b0 H => ?_
   ·revert H; refine i1 fun c7b0 H => ?_
    replace H := bi H; obtain ⟨⟨t133, t134, t135, t136⟩, A8, H⟩ := H; dsimp only at H
    revert H; refine i1 fun c9b0 H => ?_
    generalize h_ : ((x3_1.set (x4_1 : Int).toNat (⟨t133, t134, t135, t136⟩ : S82)) : List (S82)) = y137 at H
    have Ny137 := am h_.symm; clear h_
    have H' := am H; clear H
    have p132 : 0 ≤ (x4_1 : Int) := ode
    have q132 : x4_1 < (l0.length : Int) := ode
    obtain ⟨ad132, e132, hx132_0, hx132_1, hx132_2, hx132_3⟩ := at_T115 HR0.out x4_1 p132 q132
    cases e132
    obtain ⟨hx132_0, hx132_1, hx132_2, hx132_3⟩ := hb4 HB.out hx132_0 hx132_1 hx132_2 hx132_3
    replace p132 := eq_true p132
    replace q132 := eq_true q132
    go_wp2_with (first | (refine gc 88 (some 20) Try.func88 (laws_toParam.calls _ _ _ _ _ _ _ _ _ A8.out) ?_; rintro e w11 ⟨rfl, hb⟩; refine ⟨_, rfl, ?_⟩; replace HO_3 := am (rb HO_3.out hb); replace HB := am (below_step bl hb); clear hb; have p10 : 0 ≤ (x4_1 : Int) := ode; have q10 : (x4_1 : Int) < ((x3_1.length : Int) : Int) := ode; obtain ⟨go10, co10, eo10, gb10, gl10, cl10, HG10⟩ := Kd.R_form HO_3.out (by omega); (first | cases eo10 | (injection eo10 with ea_ en_ ec_; (first | subst ea_ | (injection ea_ with ea_; subst ea_)); subst ec_; clear en_)); have GB10 := Aside0.mk gb10; have GG10 := Aside0.mk HG10; clear gb10 gl10 HG10; obtain ⟨ce10, hcl10, hM10, hcc10, hfr10⟩ := Kd.R_elem HO_3.out z82 (x4_1 : Int) p10 q10; obtain rfl := k82_openM hM10; have hx10_0 : w11.cell? ⟨go10, (x4_1 : Int).toNat * 4, none⟩ = some (.string ((rd_T82 x3_1 x4_1).f0)) := hcc10 0 _ rfl; have hx10_1 : w11.cell? ⟨go10, (x4_1 : Int).toNat * 4 + 1, none⟩ = some (.int .i64 ((rd_T82 x3_1 x4_1).f1)) := hcc10 1 _ rfl; have hx10_2 : w11.cell? ⟨go10, (x4_1 : Int).toNat * 4 + 2, none⟩ = some (.int .i64 ((rd_T82 x3_1 x4_1).f2)) := hcc10 2 _ rfl; have hx10_3 : w11.cell? ⟨go10, (x4_1 : Int).toNat * 4 + 3, none⟩ = some (.int .i64 ((rd_T82 x3_1 x4_1).f3)) := hcc10 3 _ rfl; have hf10_0 : w11.frozen? ⟨go10, (x4_1 : Int).toNat * 4, none⟩ = false := hfr10 0; have hf10_1 : w11.frozen? ⟨go10, (x4_1 : Int).toNat * 4 + 1, none⟩ = false := hfr10 1; have hf10_2 : w11.frozen? ⟨go10, (x4_1 : Int).toNat * 4 + 2, none⟩ = false := hfr10 2; have hf10_3 : w11.frozen? ⟨go10, (x4_1 : Int).toNat * 4 + 3, none⟩ = false := hfr10 3; clear hcl10 hcc10 hfr10 hM10; replace p10 := eq_true p10; replace q10 := eq_true q10; have HX12 := am (show Kd.R k82 82 w11 w.heap.size (fun _ => True) (.slice (some ⟨go10, 0, none⟩) x3_1.length co10) x3_1 from (kr HO_3.out)); obtain ⟨ce12, hcl12, hM12, hcc12, hfr12⟩ := Kd.R_elem HX12.out z82 (x4_1 : Int) (ode) (by have h_ : (x4_1 : Int) < ((x3_1.length : Int) : Int) := ode; first | exact h_ | (have e_ := (Kd.R_reads' HO_3.out).1; omega) | simpa using h_); obtain rfl := k82_openM hM12; have HP12 := Kd.R_seg HX12.out (x4_1 : Int) (ode) (by have h_ : (x4_1 : Int) < ((x3_1.length : Int) : Int) := ode; first | exact h_ | (have e_ := (Kd.R_reads' HO_3.out).1; omega) | simpa using h_) (seg := [.string t133, .int .i64 t134, .int .i64 t135, .int .i64 t136]) (j := 0) hcl12 hcc12 (show 4 ≤ 4 from by decide) (x' := (⟨t133, t134, t135, t136⟩ : S82)) (k82_mkM _ _ _ (⟨t133, t134, t135, t136⟩ : S82) ) (fun _ hk => hk); have hx12_0 := hcc12 0 _ rfl; (try simp only [show (k82).sz = 4 from rfl, Nat.mul_one, Nat.add_zero] at hx12_0); have hf12_0 := hfr12 0; (try simp only [show (k82).sz = 4 from rfl, Nat.mul_one, Nat.add_zero] at hf12_0); have hx12_1 := hcc12 1 _ rfl; (try simp only [show (k82).sz = 4 from rfl, Nat.mul_one, Nat.add_zero] at hx12_1); have hf12_1 := hfr12 1; (try simp only [show (k82).sz = 4 from rfl, Nat.mul_one, Nat.add_zero] at hf12_1); have hx12_2 := hcc12 2 _ rfl; (try simp only [show (k82).sz = 4 from rfl, Nat.mul_one, Nat.add_zero] at hx12_2); have hf12_2 := hfr12 2; (try simp only [show (k82).sz = 4 from rfl, Nat.mul_one, Nat.add_zero] at hf12_2); have hx12_3 := hcc12 3 _ rfl; (try simp only [show (k82).sz = 4 from rfl, Nat.mul_one, Nat.add_zero] at hx12_3); have hf12_3 := hfr12 3; (try simp only [show (k82).sz = 4 from rfl, Nat.mul_one, Nat.add_zero] at hf12_3); clear hcl12 hcc12 hfr12 hM12) | ((with_reducible refine gate_store (t := 82) (p := 21) rfl ?_); refine store_event (t := 82) (p := 21) (v := ?vo_w13) (w1 := ((((w11.setCell ⟨go10, (x4_1 : Int).toNat * 4, none⟩ (.string t133)).setCell ⟨go10, (x4_1 : Int).toNat * 4 + 1, none⟩ (.int .i64 t134)).setCell ⟨go10, (x4_1 : Int).toNat * 4 + 2, none⟩ (.int .i64 t135)).setCell ⟨go10, (x4_1 : Int).toNat * 4 + 3, none⟩ (.int .i64 t136))) ?hg ?ho ?hn ?hr ?_; (case ho => rfl); (case hg => rfl); (case hn => rfl); (case hr => first | (go_simp; done) | (go_simp; rfl)); intro w13 hw; have hg : w11.grownBy w13 (some go10) := (by rw [hw]; exact HP12.2); have hp_ : Kd.R k82 82 w13 w.heap.size (fun _ => True) (.slice (some ⟨go10, 0, none⟩) x3_1.length co10) y137 := (by rw [hw, Ny137.out]; exact HP12.1); clear HP12; replace HO_3 := am (hp_); replace HB := am ((by rw [hw]; exact below_set (below_set (below_set (below_set (HB.out) GB10.out) GB10.out) GB10.out) GB10.out : Below w.heap.size w w13)); clear hg hw hp_))
    go_roundg k1
    case measure => have := HK1.out; omega
    case rel => exact ⟨(y137), (wrap64 (x4_1 + 1)), (by first | rfl | (simp; done) | (simp [*]; done)), H', ⟨by have := HK1.out; omega⟩, ⟨kr HO_3.out⟩, ⟨bl⟩⟩
   obtain rfl := Option.some.inj H
   go_wp2
   go_ret
   exact ⟨_, er, kr HO_3.out, bl⟩

/-! ### laws_toNode: function 89 -/
def laws_toNode.f (a0_0 : Int) (a0_1 : ByteArray) (a0_2 : ByteArray) (a0_3 : Int) (a0_4 : Int) : Option (Int × ByteArray × ByteArray × Int × Int) := some (a0_0, a0_1, a0_2, a0_3, a0_4)
theorem laws_toNode.calls (a0_0 : Int) (a0_1 : ByteArray) (a0_2 : ByteArray) (a0_3 : Int) (a0_4 : Int) (r1 : Int) (r2 : ByteArray) (r3 : ByteArray) (r4 : Int) (r5 : Int) (w : World) (h : laws_toNode.f a0_0 a0_1 a0_2 a0_3 a0_4 = some (r1, r2, r3, r4, r5)) :
  Calls Try.prog 89 #[.agg #[.int .i64 a0_0, .string a0_1, .string a0_2, .int .i64 a0_3, .int .i64 a0_4]] w fun e w' => e = .returned (.agg #[.int .i64 r1, .string r2, .string r3, .int .i64 r4, .int .i64 r5]) ∧ Below w.heap.size w w' := by
 have hu117 := Try.underlying117
 have hu88 := Try.underlying88
 have HB := am (Below.refl w.heap.size w)
 have H : (some (a0_0, a0_1, a0_2, a0_3, a0_4)) = some (r1, r2, r3, r4, r5) := h
 clear h
 simp only [Option.some.injEq, Prod.mk.injEq] at H
 obtain ⟨rfl, rfl, rfl, rfl, rfl⟩ := H
 go_enter Try.func89, Try.ntmps89
 go_wp2_with (first | (refine bx 1 #[.int .i64 a0_0, .string a0_1, .string a0_2, .int .i64 a0_3, .int .i64 a0_4] 117 ?_; intro gb138 hg w2 hbox hb; have BK138 := am (hbox); have GW138 := am (bsz hg : w.heap.size ≤ gb138); have GE138 := GW138; replace HB := am (below_step bl hb); clear hb hbox hg) | (refine bx 2 #[.int .i64 0, .string (⟨#[]⟩ : ByteArray), .string (⟨#[]⟩ : ByteArray), .int .i64 0, .int .i64 0] 88 ?_; intro gb139 hg w3 hbox hb; have BK139 := am (hbox); have GW139 := am (bsz hg : w.heap.size ≤ gb139); have GE139 := GW139; have NB138_139 := am (ne1 hg BK138.out); have NB139_138 := am NB138_139.out.symm; replace BK138 := am (bkb BK138.out hb); replace HB := am (below_step bl hb); clear hb hbox hg) | (refine bx 3 #[.int .i64 0, .string (⟨#[]⟩ : ByteArray), .string (⟨#[]⟩ : ByteArray), .int .i64 0, .int .i64 0] 88 ?_; intro gb140 hg w4 hbox hb; have BK140 := am (hbox); have GW140 := am (bsz hg : w.heap.size ≤ gb140); have GE140 := GW140; have NB138_140 := am (ne1 hg BK138.out); have NB140_138 := am NB138_140.out.symm; replace BK138 := am (bkb BK138.out hb); have NB139_140 := am (ne1 hg BK139.out); have NB140_139 := am NB139_140.out.symm; replace BK139 := am (bkb BK139.out hb); replace HB := am (below_step bl hb); clear hb hbox hg; have hnb5 := NB138_139.out; have hnc5 := NB139_138.out; have hnb6 := NB138_140.out; have hnc6 := NB140_138.out; obtain ⟨z7_0, z7_1, z7_2, z7_3, z7_4, y7_0, y7_1, y7_2, y7_3, y7_4⟩ := blk5 BK138.out; have hnb8 := NB140_139.out; have hnc8 := NB139_140.out; obtain ⟨z9_0, z9_1, z9_2, z9_3, z9_4, y9_0, y9_1, y9_2, y9_3, y9_4⟩ := blk5 BK140.out; obtain ⟨z10_0, z10_1, z10_2, z10_3, z10_4, y10_0, y10_1, y10_2, y10_3, y10_4⟩ := blk5 BK139.out))
 refine bodyPost_ret (results_cell_row rfl _ _ gb139 88 #[.int .i64 a0_0, .string a0_1, .string a0_2, .int .i64 a0_3, .int .i64 a0_4] (0, 0) _ rfl (bpf BK139.out NB139_140.out) Try.underlying88 rfl (by kernel_rfl)) rfl ?_
 exact ⟨er, bl⟩

/-! ### laws_toNodeS: function 57 -/
def laws_toNodeS.l0 : Nat → List (S117) → List (S88) → Int → Option ((List (S88)))
 | 0, _, _, _ => none
 | k + 1, x0, x3, x4 => if x4 < (x0.length : Int) then (if 0 ≤ x4 then ((laws_toNode.f ((rd_T117 x0 x4).f0) ((rd_T117 x0 x4).f1) ((rd_T117 x0 x4).f2) ((rd_T117 x0 x4).f3) ((rd_T117 x0 x4).f4)).bind fun bt145 => (if x4 < (x3.length : Int) then (laws_toNodeS.l0 k x0 (x3.set (x4 : Int).toNat (⟨bt145.1, bt145.2.1, bt145.2.2.1, bt145.2.2.2.1, bt145.2.2.2.2⟩ : S88)) (wrap64 (x4 + 1))) else (none))) else (none)) else (some x3)
def laws_toNodeS.f (k : Nat) (l0 : List (S117)) : Option ((List (S88))) := if 0 ≤ (l0.length : Int) then (if ((l0.length : Int) : Int).toNat ≤ 5026338869833 then (laws_toNodeS.l0 k l0 (List.replicate ((l0.length : Int) : Int).toNat z88) 0) else (none)) else (none)
theorem laws_toNodeS.mono_l : ∀ k, (∀ y0 y1 y2, LeO (laws_toNodeS.l0 k y0 y1 y2) (laws_toNodeS.l0 (k + 1) y0 y1 y2))
 | 0 => fun _ _ _ r h => by simp [laws_toNodeS.l0] at h
 | k + 1 => by
  have ih0 := laws_toNodeS.mono_l k
  ·intro y0 y1 y2
   unfold laws_toNodeS.l0
   exact mo
theorem laws_toNodeS.mono : ∀ a0 k, LeO (laws_toNodeS.f k a0) (laws_toNodeS.f (k + 1) a0) := by
 intro a0 k
 have ih0 := laws_toNodeS.mono_l k
 unfold laws_toNodeS.f
 exact mo
theorem laws_toNodeS.calls (k : Nat) (A0 : Option Addr) (c0 : Nat) (l0 : List (S117)) (r : List (S88)) (w : World) (hr0 : Kd.C k117 w A0 l0.length l0) (hc0 : l0.length ≤ c0) (h : laws_toNodeS.f k l0 = some r) :
  Calls Try.prog 57 #[.slice A0 l0.length c0] w fun e w' => ∃ v0_ : Value, e = .returned (v0_) ∧ Kd.R k88 88 w' w.heap.size (fun _ => True) v0_ r ∧ Below w.heap.size w w' := by
 have hu117 := Try.underlying117
 have hu88 := Try.underlying88
 have HR0 := am hr0
 have HC0 := am hc0
 clear hr0 hc0
 have HB := am (Below.refl w.heap.size w)
 have H := h
 clear h
 unfold laws_toNodeS.f at H
 revert H; refine i2 fun c2b0 c2b1 H => ?_
 revert H; refine i2 fun c3b0 c3b1 H => ?_
 generalize h_ : ((List.replicate ((l0.length : Int) : Int).toNat z88) : List (S88)) = y141 at H
 have Ny141 := am h_.symm; clear h_
 have H' := am H; clear H
 go_enter Try.func57, Try.ntmps57
 go_wp2_with (first | ((with_reducible refine gate_dst (N := 7) rfl ?_); refine Kd.R_make k88 _ 88 rfl (N := 7) rfl 39 _ _ rfl (l0.length : Int) rfl rfl Try.underlying39 (.agg #[(.int .i64 0), (.string ⟨#[]⟩), (.string ⟨#[]⟩), (.int .i64 0), (.int .i64 0)]) 56 info88 rfl (by decide) (by omega) z88 (ok := fun _ => True) (okp := fun _ => True) (k88_mkM _ _ _ z88 ) (fun _ hk => hk) trivial (ode) (Nat.le_trans (Nat.mul_le_mul_right _ (ode : (l0.length : Int).toNat ≤ 5026338869833)) (by omega)) (Below.refl _ _) (Nat.le_refl _) ?_; intro v142 w4 ho5 hb hg_ hnew_; clear hg_ hnew_; (first | rw [← Ny141.out] at ho5 | (simp only [Int.reduceToNat] at ho5; rw [← Ny141.out] at ho5)); have HO143 := am (Kd.R_lower ho5 (below_size bl)); replace HB := am (below_step bl hb); clear hb ho5))
 go_loopg [4] k (fun kq v4 w' => ∃ (x3_1 : List (S88)) (x4_1 : Int), v4 = .int .i64 x4_1 ∧ Aside0 (laws_toNodeS.l0 kq l0 x3_1 x4_1 = some r) ∧ Aside0 (kq ≤ k) ∧ Aside0 (Kd.R k88 88 w' w.heap.size (fun _ => True) v142 x3_1) ∧ Aside0 (Below w.heap.size w w'))
 case atStart => exact ⟨(y141), (0), (by first | rfl | (simp; done) | (simp [*]; done)), H', ⟨Nat.le_refl _⟩, ⟨kr HO143.out⟩, ⟨bl⟩⟩
 case round =>
  clear H'
  try clear c2b0; try clear c2b1; try clear c3b0; try clear c3b1
  obtain ⟨x3_1, x4_1, rfl, HA, HK1, HO_3, HB⟩ := hrel
  cases gk with
  | zero => exact absurd HA.out (by simp [laws_toNodeS.l0])
  | succ k1 =>
   have H := HA.out
   clear HA
   simp only [laws_toNodeS.l0] at H
   revert H; refine iDb (fun c6b0 H => ?_) fun c6b0 H => ?_
   ·revert H; refine i1 fun c7b0 H => ?_
    replace H := bi H; obtain ⟨⟨t145, t146, t147, t148, t149⟩, A8, H⟩ := H; dsimp only at H
    revert H; refine i1 fun c9b0 H => ?_
    generalize h_ : ((x3_1.set (x4_1 : Int).toNat (⟨t145, t146, t147, t148, t149⟩ : S88)) : List (S88)) = y150 at H
    have Ny150 := am h_.symm; clear h_
    have H' := am H; clear H
    have p144 : 0 ≤ (x4_1 : Int) := ode
    have q144 : x4_1 < (l0.length : Int) := ode
    obtain ⟨ad144, e144, hx144_0, hx144_1, hx144_2, hx144_3, hx144_4⟩ := at_T117 HR0.out x4_1 p144 q144
    cases e144
    obtain ⟨hx144_0, hx144_1, hx144_2, hx144_3, hx144_4⟩ := hb5 HB.out hx144_0 hx144_1 hx144_2 hx144_3 hx144_4
    replace p144 := eq_true p144
    replace q144 := eq_true q144
    go_wp2_with (first | (refine gc 89 (some 20) Try.func89 (laws_toNode.calls _ _ _ _ _ _ _ _ _ _ _ A8.out) ?_; rintro e w11 ⟨rfl, hb⟩; refine ⟨_, rfl, ?_⟩; replace HO_3 := am (rb HO_3.out hb); replace HB := am (below_step bl hb); clear hb; have p10 : 0 ≤ (x4_1 : Int) := ode; have q10 : (x4_1 : Int) < ((x3_1.length : Int) : Int) := ode; obtain ⟨go10, co10, eo10, gb10, gl10, cl10, HG10⟩ := Kd.R_form HO_3.out (by omega); (first | cases eo10 | (injection eo10 with ea_ en_ ec_; (first | subst ea_ | (injection ea_ with ea_; subst ea_)); subst ec_; clear en_)); have GB10 := Aside0.mk gb10; have GG10 := Aside0.mk HG10; clear gb10 gl10 HG10; obtain ⟨ce10, hcl10, hM10, hcc10, hfr10⟩ := Kd.R_elem HO_3.out z88 (x4_1 : Int) p10 q10; obtain rfl := k88_openM hM10; have hx10_0 : w11.cell? ⟨go10, (x4_1 : Int).toNat * 5, none⟩ = some (.int .i64 ((rd_T88 x3_1 x4_1).f0)) := hcc10 0 _ rfl; have hx10_1 : w11.cell? ⟨go10, (x4_1 : Int).toNat * 5 + 1, none⟩ = some (.string ((rd_T88 x3_1 x4_1).f1)) := hcc10 1 _ rfl; have hx10_2 : w11.cell? ⟨go10, (x4_1 : Int).toNat * 5 + 2, none⟩ = some (.string ((rd_T88 x3_1 x4_1).f2)) := hcc10 2 _ rfl; have hx10_3 : w11.cell? ⟨go10, (x4_1 : Int).toNat * 5 + 3, none⟩ = some (.int .i64 ((rd_T88 x3_1 x4_1).f3)) := hcc10 3 _ rfl; have hx10_4 : w11.cell? ⟨go10, (x4_1 : Int).toNat * 5 + 4, none⟩ = some (.int .i64 ((rd_T88 x3_1 x4_1).f4)) := hcc10 4 _ rfl; have hf10_0 : w11.frozen? ⟨go10, (x4_1 : Int).toNat * 5, none⟩ = false := hfr10 0; have hf10_1 : w11.frozen? ⟨go10, (x4_1 : Int).toNat * 5 + 1, none⟩ = false := hfr10 1; have hf10_2 : w11.frozen? ⟨go10, (x4_1 : Int).toNat * 5 + 2, none⟩ = false := hfr10 2; have hf10_3 : w11.frozen? ⟨go10, (x4_1 : Int).toNat * 5 + 3, none⟩ = false := hfr10 3; have hf10_4 : w11.frozen? ⟨go10, (x4_1 : Int).toNat * 5 + 4, none⟩ = false := hfr10 4; clear hcl10 hcc10 hfr10 hM10; replace p10 := eq_true p10; replace q10 := eq_true q10; have HX12 := am (show Kd.R k88 88 w11 w.heap.size (fun _ => True) (.slice (some ⟨go10, 0, none⟩) x3_1.length co10) x3_1 from (kr HO_3.out)); obtain ⟨ce12, hcl12, hM12, hcc12, hfr12⟩ := Kd.R_elem HX12.out z88 (x4_1 : Int) (ode) (by have h_ : (x4_1 : Int) < ((x3_1.length : Int) : Int) := ode; first | exact h_ | (have e_ := (Kd.R_reads' HO_3.out).1; omega) | simpa using h_); obtain rfl := k88_openM hM12; have HP12 := Kd.R_seg HX12.out (x4_1 : Int) (ode) (by have h_ : (x4_1 : Int) < ((x3_1.length : Int) : Int) := ode; first | exact h_ | (have e_ := (Kd.R_reads' HO_3.out).1; omega) | simpa using h_) (seg := [.int .i64 t145, .string t146, .string t147, .int .i64 t148, .int .i64 t149]) (j := 0) hcl12 hcc12 (show 5 ≤ 5 from by decide) (x' := (⟨t145, t146, t147, t148, t149⟩ : S88)) (k88_mkM _ _ _ (⟨t145, t146, t147, t148, t149⟩ : S88) ) (fun _ hk => hk); have hx12_0 := hcc12 0 _ rfl; (try simp only [show (k88).sz = 5 from rfl, Nat.mul_one, Nat.add_zero] at hx12_0); have hf12_0 := hfr12 0; (try simp only [show (k88).sz = 5 from rfl, Nat.mul_one, Nat.add_zero] at hf12_0); have hx12_1 := hcc12 1 _ rfl; (try simp only [show (k88).sz = 5 from rfl, Nat.mul_one, Nat.add_zero] at hx12_1); have hf12_1 := hfr12 1; (try simp only [show (k88).sz = 5 from rfl, Nat.mul_one, Nat.add_zero] at hf12_1); have hx12_2 := hcc12 2 _ rfl; (try simp only [show (k88).sz = 5 from rfl, Nat.mul_one, Nat.add_zero] at hx12_2); have hf12_2 := hfr12 2; (try simp only [show (k88).sz = 5 from rfl, Nat.mul_one, Nat.add_zero] at hf12_2); have hx12_3 := hcc12 3 _ rfl; (try simp only [show (k88).sz = 5 from rfl, Nat.mul_one, Nat.add_zero] at hx12_3); have hf12_3 := hfr12 3; (try simp only [show (k88).sz = 5 from rfl, Nat.mul_one, Nat.add_zero] at hf12_3); have hx12_4 := hcc12 4 _ rfl; (try simp only [show (k88).sz = 5 from rfl, Nat.mul_one, Nat.add_zero] at hx12_4); have hf12_4 := hfr12 4; (try simp only [show (k88).sz = 5 from rfl, Nat.mul_one, Nat.add_zero] at hf12_4); clear hcl12 hcc12 hfr12 hM12) | ((with_reducible refine gate_store (t := 88) (p := 21) rfl ?_); refine store_event (t := 88) (p := 21) (v := ?vo_w13) (w1 := (((((w11.setCell ⟨go10, (x4_1 : Int).toNat * 5, none⟩ (.int .i64 t145)).setCell ⟨go10, (x4_1 : Int).toNat * 5 + 1, none⟩ (.string t146)).setCell ⟨go10, (x4_1 : Int).toNat * 5 + 2, none⟩ (.string t147)).setCell ⟨go10, (x4_1 : Int).toNat * 5 + 3, none⟩ (.int .i64 t148)).setCell ⟨go10, (x4_1 : Int).toNat * 5 + 4, none⟩ (.int .i64 t149))) ?hg ?ho ?hn ?hr ?_; (case ho => rfl); (case hg => rfl); (case hn => rfl); (case hr => first | (go_simp; done) | (go_simp; rfl)); intro w13 hw; have hg : w11.grownBy w13 (some go10) := (by rw [hw]; exact HP12.2); have hp_ : Kd.R k88 88 w13 w.heap.size (fun _ => True) (.slice (some ⟨go10, 0, none⟩) x3_1.length co10) y150 := (by rw [hw, Ny150.out]; exact HP12.1); clear HP12; replace HO_3 := am (hp_); replace HB := am ((by rw [hw]; exact below_set (below_set (below_set (below_set (below_set (HB.out) GB10.out) GB10.out) GB10.out) GB10.out) GB10.out : Below w.heap.size w w13)); clear hg hw hp_))
    go_roundg k1
    case measure => have := HK1.out; omega
    case rel => exact ⟨(y150), (wrap64 (x4_1 + 1)), (by first | rfl | (simp; done) | (simp [*]; done)), H', ⟨by have := HK1.out; omega⟩, ⟨kr HO_3.out⟩, ⟨bl⟩⟩
   obtain rfl := Option.some.inj H
   go_wp2
   go_ret
   exact ⟨_, er, kr HO_3.out, bl⟩

/-! ### laws_toProduct: function 20 -/
def laws_toProduct.f (k : Nat) (a0_0 : ByteArray) (a0_1 : Int) (l0_2 : List ByteArray) (l0_3 : List ByteArray) (l0_4 : List (S115)) (l0_5 : List (S117)) (l0_6 : List (S117)) (l0_7 : List (S117)) : Option (ByteArray × Int × List ByteArray × List ByteArray × (List (S82)) × (List (S88)) × (List (S88)) × (List (S88))) := (laws_toStringS.f k l0_2).bind fun t154 => ((laws_toStringS.f k l0_3).bind fun t157 => ((laws_toParamS.f k l0_4).bind fun t160 => ((laws_toNodeS.f k l0_5).bind fun t163 => ((laws_toNodeS.f k l0_6).bind fun t166 => ((laws_toNodeS.f k l0_7).bind fun t169 => (some (a0_0, a0_1, t154, t157, t160, t163, t166, t169)))))))
theorem laws_toProduct.mono : ∀ a0 a1 a2 a3 a4 a5 a6 a7 k, LeO (laws_toProduct.f k a0 a1 a2 a3 a4 a5 a6 a7) (laws_toProduct.f (k + 1) a0 a1 a2 a3 a4 a5 a6 a7) := by
 intro a0 a1 a2 a3 a4 a5 a6 a7 k
 unfold laws_toProduct.f
 repeat' (with_reducible first | exact laws_toNodeS.mono .. | exact laws_toParamS.mono .. | exact laws_toStringS.mono .. | exact LeO.refl _ | exact LeO.none _ | refine LeO.ite ?_ ?_ | refine LeO.bind ?_ (fun _ => ?_))
theorem laws_toProduct.calls (k : Nat) (a0_0 : ByteArray) (a0_1 : Int) (A0_2 : Option Addr) (c0_2 : Nat) (l0_2 : List ByteArray) (A0_3 : Option Addr) (c0_3 : Nat) (l0_3 : List ByteArray) (A0_4 : Option Addr) (c0_4 : Nat) (l0_4 : List (S115)) (A0_5 : Option Addr) (c0_5 : Nat) (l0_5 : List (S117)) (A0_6 : Option Addr) (c0_6 : Nat) (l0_6 : List (S117)) (A0_7 : Option Addr) (c0_7 : Nat) (l0_7 : List (S117)) (r1 : ByteArray) (r2 : Int) (r3 : List ByteArray) (r4 : List ByteArray) (r5 : List (S82)) (r6 : List (S88)) (r7 : List (S88)) (r8 : List (S88)) (w : World) (hr0_2 : Kd.C Kd.string w A0_2 l0_2.length l0_2) (hc0_2 : l0_2.length ≤ c0_2) (hr0_3 : Kd.C Kd.string w A0_3 l0_3.length l0_3) (hc0_3 : l0_3.length ≤ c0_3) (hr0_4 : Kd.C k115 w A0_4 l0_4.length l0_4) (hc0_4 : l0_4.length ≤ c0_4) (hr0_5 : Kd.C k117 w A0_5 l0_5.length l0_5) (hc0_5 : l0_5.length ≤ c0_5) (hr0_6 : Kd.C k117 w A0_6 l0_6.length l0_6) (hc0_6 : l0_6.length ≤ c0_6) (hr0_7 : Kd.C k117 w A0_7 l0_7.length l0_7) (hc0_7 : l0_7.length ≤ c0_7) (h : laws_toProduct.f k a0_0 a0_1 l0_2 l0_3 l0_4 l0_5 l0_6 l0_7 = some (r1, r2, r3, r4, r5, r6, r7, r8)) :
  Calls Try.prog 20 #[.agg #[.string a0_0, .int .i64 a0_1, .slice A0_2 l0_2.length c0_2, .slice A0_3 l0_3.length c0_3, .slice A0_4 l0_4.length c0_4, .slice A0_5 l0_5.length c0_5, .slice A0_6 l0_6.length c0_6, .slice A0_7 l0_7.length c0_7]] w fun e w' => ∃ v2_ v3_ v4_ v5_ v6_ v7_ : Value, e = .returned (.agg #[.string r1, .int .i64 r2, v2_, v3_, v4_, v5_, v6_, v7_]) ∧ Kd.R Kd.string 9 w' w.heap.size (fun k_ => some k_ ≠ (v3_ : Value).ownBlock) v2_ r3 ∧ Kd.R Kd.string 9 w' w.heap.size (fun k_ => some k_ ≠ (v2_ : Value).ownBlock) v3_ r4 ∧ Kd.R k82 82 w' w.heap.size (fun _ => True) v4_ r5 ∧ Kd.R k88 88 w' w.heap.size (fun k_ => some k_ ≠ (v6_ : Value).ownBlock ∧ some k_ ≠ (v7_ : Value).ownBlock) v5_ r6 ∧ Kd.R k88 88 w' w.heap.size (fun k_ => some k_ ≠ (v5_ : Value).ownBlock ∧ some k_ ≠ (v7_ : Value).ownBlock) v6_ r7 ∧ Kd.R k88 88 w' w.heap.size (fun k_ => some k_ ≠ (v5_ : Value).ownBlock ∧ some k_ ≠ (v6_ : Value).ownBlock) v7_ r8 ∧ Below w.heap.size w w' := by
 have hu35 := Try.underlying35
 have hu41 := Try.underlying41
 have HR0_2 := am hr0_2
 have HC0_2 := am hc0_2
 clear hr0_2 hc0_2
 have HR0_3 := am hr0_3
 have HC0_3 := am hc0_3
 clear hr0_3 hc0_3
 have HR0_4 := am hr0_4
 have HC0_4 := am hc0_4
 clear hr0_4 hc0_4
 have HR0_5 := am hr0_5
 have HC0_5 := am hc0_5
 clear hr0_5 hc0_5
 have HR0_6 := am hr0_6
 have HC0_6 := am hc0_6
 clear hr0_6 hc0_6
 have HR0_7 := am hr0_7
 have HC0_7 := am hc0_7
 clear hr0_7 hc0_7
 have HB := am (Below.refl w.heap.size w)
 have H : ((laws_toStringS.f k l0_2).bind fun t154 => ((laws_toStringS.f k l0_3).bind fun t157 => ((laws_toParamS.f k l0_4).bind fun t160 => ((laws_toNodeS.f k l0_5).bind fun t163 => ((laws_toNodeS.f k l0_6).bind fun t166 => ((laws_toNodeS.f k l0_7).bind fun t169 => (some (a0_0, a0_1, t154, t157, t160, t163, t166, t169)))))))) = some (r1, r2, r3, r4, r5, r6, r7, r8) := h
 clear h
 replace H := Option.bind_eq_some_iff.mp H
 obtain ⟨t154, A20, H⟩ := H
 replace H : ((laws_toStringS.f k l0_3).bind fun t157 => ((laws_toParamS.f k l0_4).bind fun t160 => ((laws_toNodeS.f k l0_5).bind fun t163 => ((laws_toNodeS.f k l0_6).bind fun t166 => ((laws_toNodeS.f k l0_7).bind fun t169 => (some (a0_0, a0_1, t154, t157, t160, t163, t166, t169))))))) = some (r1, r2, r3, r4, r5, r6, r7, r8) := H
 have A2 := am A20; clear A20
 replace H := Option.bind_eq_some_iff.mp H
 obtain ⟨t157, A30, H⟩ := H
 replace H : ((laws_toParamS.f k l0_4).bind fun t160 => ((laws_toNodeS.f k l0_5).bind fun t163 => ((laws_toNodeS.f k l0_6).bind fun t166 => ((laws_toNodeS.f k l0_7).bind fun t169 => (some (a0_0, a0_1, t154, t157, t160, t163, t166, t169)))))) = some (r1, r2, r3, r4, r5, r6, r7, r8) := H
 have A3 := am A30; clear A30
 replace H := Option.bind_eq_some_iff.mp H
 obtain ⟨t160, A40, H⟩ := H
 replace H : ((laws_toNodeS.f k l0_5).bind fun t163 => ((laws_toNodeS.f k l0_6).bind fun t166 => ((laws_toNodeS.f k l0_7).bind fun t169 => (some (a0_0, a0_1, t154, t157, t160, t163, t166, t169))))) = some (r1, r2, r3, r4, r5, r6, r7, r8) := H
 have A4 := am A40; clear A40
 replace H := Option.bind_eq_some_iff.mp H
 obtain ⟨t163, A50, H⟩ := H
 replace H : ((laws_toNodeS.f k l0_6).bind fun t166 => ((laws_toNodeS.f k l0_7).bind fun t169 => (some (a0_0, a0_1, t154, t157, t160, t163, t166, t169)))) = some (r1, r2, r3, r4, r5, r6, r7, r8) := H
 have A5 := am A50; clear A50
 replace H := Option.bind_eq_some_iff.mp H
 obtain ⟨t166, A60, H⟩ := H
 replace H : ((laws_toNodeS.f k l0_7).bind fun t169 => (some (a0_0, a0_1, t154, t157, t160, t163, t166, t169))) = some (r1, r2, r3, r4, r5, r6, r7, r8) := H
 have A6 := am A60; clear A60
 replace H := Option.bind_eq_some_iff.mp H
 obtain ⟨t169, A70, H⟩ := H
 replace H : (some (a0_0, a0_1, t154, t157, t160, t163, t166, t169)) = some (r1, r2, r3, r4, r5, r6, r7, r8) := H
 have A7 := am A70; clear A70
 simp only [Option.some.injEq, Prod.mk.injEq] at H
 obtain ⟨rfl, rfl, rfl, rfl, rfl, rfl, rfl, rfl⟩ := H
 go_enter Try.func20, Try.ntmps20
 go_wp2_with (first | (refine bx 1 #[.string a0_0, .int .i64 a0_1, .slice A0_2 l0_2.length c0_2, .slice A0_3 l0_3.length c0_3, .slice A0_4 l0_4.length c0_4, .slice A0_5 l0_5.length c0_5, .slice A0_6 l0_6.length c0_6, .slice A0_7 l0_7.length c0_7] 35 ?_; intro gb151 hg w8 hbox hb; have BK151 := am (hbox); have GW151 := am (bsz hg : w.heap.size ≤ gb151); have GE151 := GW151; replace HB := am (below_step bl hb); clear hb hbox hg) | (refine bx 2 #[.string (⟨#[]⟩ : ByteArray), .int .i64 0, .slice none 0 0, .slice none 0 0, .slice none 0 0, .slice none 0 0, .slice none 0 0, .slice none 0 0] 41 ?_; intro gb152 hg w9 hbox hb; have BK152 := am (hbox); have GW152 := am (bsz hg : w.heap.size ≤ gb152); have GE152 := GW152; have NB151_152 := am (ne1 hg BK151.out); have NB152_151 := am NB151_152.out.symm; replace BK151 := am (bkb BK151.out hb); replace HB := am (below_step bl hb); clear hb hbox hg) | (refine bx 3 #[.string (⟨#[]⟩ : ByteArray), .int .i64 0, .slice none 0 0, .slice none 0 0, .slice none 0 0, .slice none 0 0, .slice none 0 0, .slice none 0 0] 41 ?_; intro gb153 hg w10 hbox hb; have BK153 := am (hbox); have GW153 := am (bsz hg : w.heap.size ≤ gb153); have GE153 := GW153; have NB151_153 := am (ne1 hg BK151.out); have NB153_151 := am NB151_153.out.symm; replace BK151 := am (bkb BK151.out hb); have NB152_153 := am (ne1 hg BK152.out); have NB153_152 := am NB152_153.out.symm; replace BK152 := am (bkb BK152.out hb); replace HB := am (below_step bl hb); clear hb hbox hg; have hnb11 := NB151_152.out; have hnc11 := NB152_151.out; have hnb12 := NB151_153.out; have hnc12 := NB153_151.out; obtain ⟨z13_0, z13_1, z13_2, z13_3, z13_4, z13_5, z13_6, z13_7, y13_0, y13_1, y13_2, y13_3, y13_4, y13_5, y13_6, y13_7⟩ := blk8 BK151.out; have hnb14 := NB153_152.out; have hnc14 := NB152_153.out; obtain ⟨z15_0, z15_1, z15_2, z15_3, z15_4, z15_5, z15_6, z15_7, y15_0, y15_1, y15_2, y15_3, y15_4, y15_5, y15_6, y15_7⟩ := blk8 BK153.out) | (refine gc 55 (some 12) Try.func55 (laws_toStringS.calls _ _ _ _ _ _ ?side1 ?side2 A2.out) ?_; (case side1 => exact Kd.C_below HR0_2.out bl); (case side2 => exact HC0_2.out); rintro e w16 ⟨v155, rfl, ho0, hb⟩; refine ⟨_, rfl, ?_⟩; have HO156 := am (Kd.R_lower ho0 (below_size bl)); replace BK151 := am (blk_below (g := gb151) (o := .cells #[.string a0_0, .int .i64 a0_1, .slice A0_2 l0_2.length c0_2, .slice A0_3 l0_3.length c0_3, .slice A0_4 l0_4.length c0_4, .slice A0_5 l0_5.length c0_5, .slice A0_6 l0_6.length c0_6, .slice A0_7 l0_7.length c0_7] 35 (0, 0)) (bf BK151.out NB151_153.out) hb); replace BK152 := am (blk_below (g := gb152) (o := .cells #[.string (⟨#[]⟩ : ByteArray), .int .i64 0, .slice none 0 0, .slice none 0 0, .slice none 0 0, .slice none 0 0, .slice none 0 0, .slice none 0 0] 41 (0, 0)) (bf BK152.out NB152_153.out) hb); replace BK153 := am (blk_below (g := gb153) (o := .cells #[.string a0_0, .int .i64 a0_1, .slice none 0 0, .slice none 0 0, .slice none 0 0, .slice none 0 0, .slice none 0 0, .slice none 0 0] 41 (0, 0)) (bp BK153.out) hb); replace HB := am (below_step bl hb); clear hb ho0; obtain ⟨Ao17, co17, eo17⟩ := Kd.R_slice HO156.out; subst eo17; obtain ⟨z18_0, z18_1, z18_2, z18_3, z18_4, z18_5, z18_6, z18_7, y18_0, y18_1, y18_2, y18_3, y18_4, y18_5, y18_6, y18_7⟩ := blk8 BK153.out; obtain ⟨z19_0, z19_1, z19_2, z19_3, z19_4, z19_5, z19_6, z19_7, y19_0, y19_1, y19_2, y19_3, y19_4, y19_5, y19_6, y19_7⟩ := blk8 BK151.out) | (refine gc 55 (some 16) Try.func55 (laws_toStringS.calls _ _ _ _ _ _ ?side1 ?side2 A3.out) ?_; (case side1 => exact Kd.C_below HR0_3.out bl); (case side2 => exact HC0_3.out); rintro e w20 ⟨v158, rfl, ho0, hb⟩; refine ⟨_, rfl, ?_⟩; have HO159 := am (Kd.R_lower (Kd.R_new' ho0 (Kd.R_lt (by (with_reducible repeat (first | apply Kd.R_alloc | apply Kd.R_drewN | apply Kd.R_drew)); exact (Kd.R_mono (Kd.R_far (p := ⟨gb153, 2, none⟩) (Kd.R_types HO156.out BK153.out (by decide)) (fun _ hk => hk.2) (.slice Ao17 t154.length co17)) (fun _ h_ => h_.1))))) (below_size bl)); replace HO156 := am (Kd.R_elder' (by (with_reducible repeat (first | apply Kd.R_alloc | apply Kd.R_drewN | apply Kd.R_drew)); exact (Kd.R_mono (Kd.R_far (p := ⟨gb153, 2, none⟩) (Kd.R_types HO156.out BK153.out (by decide)) (fun _ hk => hk.2) (.slice Ao17 t154.length co17)) (fun _ h_ => h_.1))) (Kd.R_base ho0) hb); replace BK151 := am (blk_below (g := gb151) (o := .cells #[.string a0_0, .int .i64 a0_1, .slice A0_2 l0_2.length c0_2, .slice A0_3 l0_3.length c0_3, .slice A0_4 l0_4.length c0_4, .slice A0_5 l0_5.length c0_5, .slice A0_6 l0_6.length c0_6, .slice A0_7 l0_7.length c0_7] 35 (0, 0)) (bf BK151.out NB151_153.out) hb); replace BK152 := am (blk_below (g := gb152) (o := .cells #[.string (⟨#[]⟩ : ByteArray), .int .i64 0, .slice none 0 0, .slice none 0 0, .slice none 0 0, .slice none 0 0, .slice none 0 0, .slice none 0 0] 41 (0, 0)) (bf BK152.out NB152_153.out) hb); replace BK153 := am (blk_below (g := gb153) (o := .cells #[.string a0_0, .int .i64 a0_1, .slice Ao17 t154.length co17, .slice none 0 0, .slice none 0 0, .slice none 0 0, .slice none 0 0, .slice none 0 0] 41 (0, 0)) (bp BK153.out) hb); replace HB := am (below_step bl hb); clear hb ho0; obtain ⟨Ao21, co21, eo21⟩ := Kd.R_slice HO159.out; subst eo21; obtain ⟨z22_0, z22_1, z22_2, z22_3, z22_4, z22_5, z22_6, z22_7, y22_0, y22_1, y22_2, y22_3, y22_4, y22_5, y22_6, y22_7⟩ := blk8 BK153.out; obtain ⟨z23_0, z23_1, z23_2, z23_3, z23_4, z23_5, z23_6, z23_7, y23_0, y23_1, y23_2, y23_3, y23_4, y23_5, y23_6, y23_7⟩ := blk8 BK151.out) | (refine gc 56 (some 20) Try.func56 (laws_toParamS.calls _ _ _ _ _ _ ?side1 ?side2 A4.out) ?_; (case side1 => exact Kd.C_below HR0_4.out bl); (case side2 => exact HC0_4.out); rintro e w24 ⟨v161, rfl, ho0, hb⟩; refine ⟨_, rfl, ?_⟩; replace HO156 := am (Kd.R_below (by (with_reducible repeat (first | apply Kd.R_alloc | apply Kd.R_drewN | apply Kd.R_drew)); exact (Kd.R_mono (Kd.R_far (p := ⟨gb153, 3, none⟩) (Kd.R_types HO156.out BK153.out (by decide)) (fun _ hk => hk.2) (.slice Ao21 t157.length co21)) (fun _ h_ => h_.1))) hb); replace HO159 := am (Kd.R_below (by (with_reducible repeat (first | apply Kd.R_alloc | apply Kd.R_drewN | apply Kd.R_drew)); exact (Kd.R_mono (Kd.R_far (p := ⟨gb153, 3, none⟩) (Kd.R_types HO159.out BK153.out (by decide)) (fun _ hk => hk.2) (.slice Ao21 t157.length co21)) (fun _ h_ => h_.1))) hb); have HO162 := am (Kd.R_lower ho0 (below_size bl)); replace BK151 := am (blk_below (g := gb151) (o := .cells #[.string a0_0, .int .i64 a0_1, .slice A0_2 l0_2.length c0_2, .slice A0_3 l0_3.length c0_3, .slice A0_4 l0_4.length c0_4, .slice A0_5 l0_5.length c0_5, .slice A0_6 l0_6.length c0_6, .slice A0_7 l0_7.length c0_7] 35 (0, 0)) (bf BK151.out NB151_153.out) hb); replace BK152 := am (blk_below (g := gb152) (o := .cells #[.string (⟨#[]⟩ : ByteArray), .int .i64 0, .slice none 0 0, .slice none 0 0, .slice none 0 0, .slice none 0 0, .slice none 0 0, .slice none 0 0] 41 (0, 0)) (bf BK152.out NB152_153.out) hb); replace BK153 := am (blk_below (g := gb153) (o := .cells #[.string a0_0, .int .i64 a0_1, .slice Ao17 t154.length co17, .slice Ao21 t157.length co21, .slice none 0 0, .slice none 0 0, .slice none 0 0, .slice none 0 0] 41 (0, 0)) (bp BK153.out) hb); replace HB := am (below_step bl hb); clear hb ho0; obtain ⟨Ao25, co25, eo25⟩ := Kd.R_slice HO162.out; subst eo25; obtain ⟨z26_0, z26_1, z26_2, z26_3, z26_4, z26_5, z26_6, z26_7, y26_0, y26_1, y26_2, y26_3, y26_4, y26_5, y26_6, y26_7⟩ := blk8 BK153.out; obtain ⟨z27_0, z27_1, z27_2, z27_3, z27_4, z27_5, z27_6, z27_7, y27_0, y27_1, y27_2, y27_3, y27_4, y27_5, y27_6, y27_7⟩ := blk8 BK151.out) | (refine gc 57 (some 24) Try.func57 (laws_toNodeS.calls _ _ _ _ _ _ ?side1 ?side2 A5.out) ?_; (case side1 => exact Kd.C_below HR0_5.out bl); (case side2 => exact HC0_5.out); rintro e w28 ⟨v164, rfl, ho0, hb⟩; refine ⟨_, rfl, ?_⟩; replace HO156 := am (Kd.R_below (by (with_reducible repeat (first | apply Kd.R_alloc | apply Kd.R_drewN | apply Kd.R_drew)); exact (Kd.R_mono (Kd.R_far (p := ⟨gb153, 4, none⟩) (Kd.R_types HO156.out BK153.out (by decide)) (fun _ hk => hk.2) (.slice Ao25 t160.length co25)) (fun _ h_ => h_.1))) hb); replace HO159 := am (Kd.R_below (by (with_reducible repeat (first | apply Kd.R_alloc | apply Kd.R_drewN | apply Kd.R_drew)); exact (Kd.R_mono (Kd.R_far (p := ⟨gb153, 4, none⟩) (Kd.R_types HO159.out BK153.out (by decide)) (fun _ hk => hk.2) (.slice Ao25 t160.length co25)) (fun _ h_ => h_.1))) hb); replace HO162 := am (Kd.R_below (by (with_reducible repeat (first | apply Kd.R_alloc | apply Kd.R_drewN | apply Kd.R_drew)); exact (Kd.R_mono (Kd.R_far (p := ⟨gb153, 4, none⟩) (Kd.R_types HO162.out BK153.out (by decide)) (fun _ hk => hk.2) (.slice Ao25 t160.length co25)) (fun _ h_ => h_.1))) hb); have HO165 := am (Kd.R_lower ho0 (below_size bl)); replace BK151 := am (blk_below (g := gb151) (o := .cells #[.string a0_0, .int .i64 a0_1, .slice A0_2 l0_2.length c0_2, .slice A0_3 l0_3.length c0_3, .slice A0_4 l0_4.length c0_4, .slice A0_5 l0_5.length c0_5, .slice A0_6 l0_6.length c0_6, .slice A0_7 l0_7.length c0_7] 35 (0, 0)) (bf BK151.out NB151_153.out) hb); replace BK152 := am (blk_below (g := gb152) (o := .cells #[.string (⟨#[]⟩ : ByteArray), .int .i64 0, .slice none 0 0, .slice none 0 0, .slice none 0 0, .slice none 0 0, .slice none 0 0, .slice none 0 0] 41 (0, 0)) (bf BK152.out NB152_153.out) hb); replace BK153 := am (blk_below (g := gb153) (o := .cells #[.string a0_0, .int .i64 a0_1, .slice Ao17 t154.length co17, .slice Ao21 t157.length co21, .slice Ao25 t160.length co25, .slice none 0 0, .slice none 0 0, .slice none 0 0] 41 (0, 0)) (bp BK153.out) hb); replace HB := am (below_step bl hb); clear hb ho0; obtain ⟨Ao29, co29, eo29⟩ := Kd.R_slice HO165.out; subst eo29; obtain ⟨z30_0, z30_1, z30_2, z30_3, z30_4, z30_5, z30_6, z30_7, y30_0, y30_1, y30_2, y30_3, y30_4, y30_5, y30_6, y30_7⟩ := blk8 BK153.out; obtain ⟨z31_0, z31_1, z31_2, z31_3, z31_4, z31_5, z31_6, z31_7, y31_0, y31_1, y31_2, y31_3, y31_4, y31_5, y31_6, y31_7⟩ := blk8 BK151.out) | (refine gc 57 (some 28) Try.func57 (laws_toNodeS.calls _ _ _ _ _ _ ?side1 ?side2 A6.out) ?_; (case side1 => exact Kd.C_below HR0_6.out bl); (case side2 => exact HC0_6.out); rintro e w32 ⟨v167, rfl, ho0, hb⟩; refine ⟨_, rfl, ?_⟩; replace HO156 := am (Kd.R_below (by (with_reducible repeat (first | apply Kd.R_alloc | apply Kd.R_drewN | apply Kd.R_drew)); exact (Kd.R_mono (Kd.R_far (p := ⟨gb153, 5, none⟩) (Kd.R_types HO156.out BK153.out (by decide)) (fun _ hk => hk.2) (.slice Ao29 t163.length co29)) (fun _ h_ => h_.1))) hb); replace HO159 := am (Kd.R_below (by (with_reducible repeat (first | apply Kd.R_alloc | apply Kd.R_drewN | apply Kd.R_drew)); exact (Kd.R_mono (Kd.R_far (p := ⟨gb153, 5, none⟩) (Kd.R_types HO159.out BK153.out (by decide)) (fun _ hk => hk.2) (.slice Ao29 t163.length co29)) (fun _ h_ => h_.1))) hb); replace HO162 := am (Kd.R_below (by (with_reducible repeat (first | apply Kd.R_alloc | apply Kd.R_drewN | apply Kd.R_drew)); exact (Kd.R_mono (Kd.R_far (p := ⟨gb153, 5, none⟩) (Kd.R_types HO162.out BK153.out (by decide)) (fun _ hk => hk.2) (.slice Ao29 t163.length co29)) (fun _ h_ => h_.1))) hb); have HO168 := am (Kd.R_lower (Kd.R_new' ho0 (Kd.R_lt (by (with_reducible repeat (first | apply Kd.R_alloc | apply Kd.R_drewN | apply Kd.R_drew)); exact (Kd.R_mono (Kd.R_far (p := ⟨gb153, 5, none⟩) (Kd.R_types HO165.out BK153.out (by decide)) (fun _ hk => hk.2) (.slice Ao29 t163.length co29)) (fun _ h_ => h_.1))))) (below_size bl)); replace HO165 := am (Kd.R_elder' (by (with_reducible repeat (first | apply Kd.R_alloc | apply Kd.R_drewN | apply Kd.R_drew)); exact (Kd.R_mono (Kd.R_far (p := ⟨gb153, 5, none⟩) (Kd.R_types HO165.out BK153.out (by decide)) (fun _ hk => hk.2) (.slice Ao29 t163.length co29)) (fun _ h_ => h_.1))) (Kd.R_base ho0) hb); replace BK151 := am (blk_below (g := gb151) (o := .cells #[.string a0_0, .int .i64 a0_1, .slice A0_2 l0_2.length c0_2, .slice A0_3 l0_3.length c0_3, .slice A0_4 l0_4.length c0_4, .slice A0_5 l0_5.length c0_5, .slice A0_6 l0_6.length c0_6, .slice A0_7 l0_7.length c0_7] 35 (0, 0)) (bf BK151.out NB151_153.out) hb); replace BK152 := am (blk_below (g := gb152) (o := .cells #[.string (⟨#[]⟩ : ByteArray), .int .i64 0, .slice none 0 0, .slice none 0 0, .slice none 0 0, .slice none 0 0, .slice none 0 0, .slice none 0 0] 41 (0, 0)) (bf BK152.out NB152_153.out) hb); replace BK153 := am (blk_below (g := gb153) (o := .cells #[.string a0_0, .int .i64 a0_1, .slice Ao17 t154.length co17, .slice Ao21 t157.length co21, .slice Ao25 t160.length co25, .slice Ao29 t163.length co29, .slice none 0 0, .slice none 0 0] 41 (0, 0)) (bp BK153.out) hb); replace HB := am (below_step bl hb); clear hb ho0; obtain ⟨Ao33, co33, eo33⟩ := Kd.R_slice HO168.out; subst eo33; obtain ⟨z34_0, z34_1, z34_2, z34_3, z34_4, z34_5, z34_6, z34_7, y34_0, y34_1, y34_2, y34_3, y34_4, y34_5, y34_6, y34_7⟩ := blk8 BK153.out; obtain ⟨z35_0, z35_1, z35_2, z35_3, z35_4, z35_5, z35_6, z35_7, y35_0, y35_1, y35_2, y35_3, y35_4, y35_5, y35_6, y35_7⟩ := blk8 BK151.out) | (refine gc 57 (some 32) Try.func57 (laws_toNodeS.calls _ _ _ _ _ _ ?side1 ?side2 A7.out) ?_; (case side1 => exact Kd.C_below HR0_7.out bl); (case side2 => exact HC0_7.out); rintro e w36 ⟨v170, rfl, ho0, hb⟩; refine ⟨_, rfl, ?_⟩; replace HO156 := am (Kd.R_below (by (with_reducible repeat (first | apply Kd.R_alloc | apply Kd.R_drewN | apply Kd.R_drew)); exact (Kd.R_mono (Kd.R_far (p := ⟨gb153, 6, none⟩) (Kd.R_types HO156.out BK153.out (by decide)) (fun _ hk => hk.2) (.slice Ao33 t166.length co33)) (fun _ h_ => h_.1))) hb); replace HO159 := am (Kd.R_below (by (with_reducible repeat (first | apply Kd.R_alloc | apply Kd.R_drewN | apply Kd.R_drew)); exact (Kd.R_mono (Kd.R_far (p := ⟨gb153, 6, none⟩) (Kd.R_types HO159.out BK153.out (by decide)) (fun _ hk => hk.2) (.slice Ao33 t166.length co33)) (fun _ h_ => h_.1))) hb); replace HO162 := am (Kd.R_below (by (with_reducible repeat (first | apply Kd.R_alloc | apply Kd.R_drewN | apply Kd.R_drew)); exact (Kd.R_mono (Kd.R_far (p := ⟨gb153, 6, none⟩) (Kd.R_types HO162.out BK153.out (by decide)) (fun _ hk => hk.2) (.slice Ao33 t166.length co33)) (fun _ h_ => h_.1))) hb); have HO171 := am (Kd.R_lower (Kd.R_new' (Kd.R_new' ho0 (Kd.R_lt (by (with_reducible repeat (first | apply Kd.R_alloc | apply Kd.R_drewN | apply Kd.R_drew)); exact (Kd.R_mono (Kd.R_far (p := ⟨gb153, 6, none⟩) (Kd.R_types HO165.out BK153.out (by decide)) (fun _ hk => hk.2) (.slice Ao33 t166.length co33)) (fun _ h_ => h_.1))))) (Kd.R_lt (by (with_reducible repeat (first | apply Kd.R_alloc | apply Kd.R_drewN | apply Kd.R_drew)); exact (Kd.R_mono (Kd.R_far (p := ⟨gb153, 6, none⟩) (Kd.R_types HO168.out BK153.out (by decide)) (fun _ hk => hk.2) (.slice Ao33 t166.length co33)) (fun _ h_ => h_.1))))) (below_size bl)); replace HO165 := am (Kd.R_elder' (by (with_reducible repeat (first | apply Kd.R_alloc | apply Kd.R_drewN | apply Kd.R_drew)); exact (Kd.R_mono (Kd.R_far (p := ⟨gb153, 6, none⟩) (Kd.R_types HO165.out BK153.out (by decide)) (fun _ hk => hk.2) (.slice Ao33 t166.length co33)) (fun _ h_ => h_.1))) (Kd.R_base ho0) hb); replace HO168 := am (Kd.R_elder' (by (with_reducible repeat (first | apply Kd.R_alloc | apply Kd.R_drewN | apply Kd.R_drew)); exact (Kd.R_mono (Kd.R_far (p := ⟨gb153, 6, none⟩) (Kd.R_types HO168.out BK153.out (by decide)) (fun _ hk => hk.2) (.slice Ao33 t166.length co33)) (fun _ h_ => h_.1))) (Kd.R_base ho0) hb); replace BK151 := am (blk_below (g := gb151) (o := .cells #[.string a0_0, .int .i64 a0_1, .slice A0_2 l0_2.length c0_2, .slice A0_3 l0_3.length c0_3, .slice A0_4 l0_4.length c0_4, .slice A0_5 l0_5.length c0_5, .slice A0_6 l0_6.length c0_6, .slice A0_7 l0_7.length c0_7] 35 (0, 0)) (bf BK151.out NB151_153.out) hb); replace BK152 := am (blk_below (g := gb152) (o := .cells #[.string (⟨#[]⟩ : ByteArray), .int .i64 0, .slice none 0 0, .slice none 0 0, .slice none 0 0, .slice none 0 0, .slice none 0 0, .slice none 0 0] 41 (0, 0)) (bf BK152.out NB152_153.out) hb); replace BK153 := am (blk_below (g := gb153) (o := .cells #[.string a0_0, .int .i64 a0_1, .slice Ao17 t154.length co17, .slice Ao21 t157.length co21, .slice Ao25 t160.length co25, .slice Ao29 t163.length co29, .slice Ao33 t166.length co33, .slice none 0 0] 41 (0, 0)) (bp BK153.out) hb); replace HB := am (below_step bl hb); clear hb ho0; obtain ⟨Ao37, co37, eo37⟩ := Kd.R_slice HO171.out; subst eo37; obtain ⟨z38_0, z38_1, z38_2, z38_3, z38_4, z38_5, z38_6, z38_7, y38_0, y38_1, y38_2, y38_3, y38_4, y38_5, y38_6, y38_7⟩ := blk8 BK153.out; obtain ⟨z39_0, z39_1, z39_2, z39_3, z39_4, z39_5, z39_6, z39_7, y39_0, y39_1, y39_2, y39_3, y39_4, y39_5, y39_6, y39_7⟩ := blk8 BK152.out))
 refine bodyPost_ret (results_cell_row rfl _ _ gb152 41 #[.string a0_0, .int .i64 a0_1, .slice Ao17 t154.length co17, .slice Ao21 t157.length co21, .slice Ao25 t160.length co25, .slice Ao29 t163.length co29, .slice Ao33 t166.length co33, .slice Ao37 t169.length co37] (0, 0) _ rfl (bpf BK152.out NB152_153.out) Try.underlying41 rfl (by kernel_rfl)) rfl ?_
 exact ⟨_, _, _, _, _, _, er, by (with_reducible repeat (first | apply Kd.R_alloc | apply Kd.R_drewN | apply Kd.R_drew)); exact Kd.R_mono (Kd.R_far (p := ⟨gb152, 7, none⟩) (Kd.R_far (p := ⟨gb152, 6, none⟩) (Kd.R_far (p := ⟨gb152, 5, none⟩) (Kd.R_far (p := ⟨gb152, 4, none⟩) (Kd.R_far (p := ⟨gb152, 3, none⟩) (Kd.R_far (p := ⟨gb152, 2, none⟩) (Kd.R_far (p := ⟨gb152, 1, none⟩) (Kd.R_far (p := ⟨gb152, 0, none⟩) (Kd.R_far (p := ⟨gb153, 7, none⟩) (Kd.R_types (Kd.R_types HO156.out BK153.out (by decide)) BK152.out (by decide)) (fun _ hk => hk.1.2) (.slice Ao37 t169.length co37)) (fun _ hk => hk.2) (.string a0_0)) (fun _ hk => hk.2) (.int .i64 a0_1)) (fun _ hk => hk.2) (.slice Ao17 t154.length co17)) (fun _ hk => hk.2) (.slice Ao21 t157.length co21)) (fun _ hk => hk.2) (.slice Ao25 t160.length co25)) (fun _ hk => hk.2) (.slice Ao29 t163.length co29)) (fun _ hk => hk.2) (.slice Ao33 t166.length co33)) (fun _ hk => hk.2) (.slice Ao37 t169.length co37)) (fun _ hk => hk.1.1.2), by (with_reducible repeat (first | apply Kd.R_alloc | apply Kd.R_drewN | apply Kd.R_drew)); exact Kd.R_mono (Kd.R_far (p := ⟨gb152, 7, none⟩) (Kd.R_far (p := ⟨gb152, 6, none⟩) (Kd.R_far (p := ⟨gb152, 5, none⟩) (Kd.R_far (p := ⟨gb152, 4, none⟩) (Kd.R_far (p := ⟨gb152, 3, none⟩) (Kd.R_far (p := ⟨gb152, 2, none⟩) (Kd.R_far (p := ⟨gb152, 1, none⟩) (Kd.R_far (p := ⟨gb152, 0, none⟩) (Kd.R_far (p := ⟨gb153, 7, none⟩) (Kd.R_types (Kd.R_types HO159.out BK153.out (by decide)) BK152.out (by decide)) (fun _ hk => hk.1.2) (.slice Ao37 t169.length co37)) (fun _ hk => hk.2) (.string a0_0)) (fun _ hk => hk.2) (.int .i64 a0_1)) (fun _ hk => hk.2) (.slice Ao17 t154.length co17)) (fun _ hk => hk.2) (.slice Ao21 t157.length co21)) (fun _ hk => hk.2) (.slice Ao25 t160.length co25)) (fun _ hk => hk.2) (.slice Ao29 t163.length co29)) (fun _ hk => hk.2) (.slice Ao33 t166.length co33)) (fun _ hk => hk.2) (.slice Ao37 t169.length co37)) (fun _ hk => hk.1.1.2), by (with_reducible repeat (first | apply Kd.R_alloc | apply Kd.R_drewN | apply Kd.R_drew)); exact Kd.R_mono (Kd.R_far (p := ⟨gb152, 7, none⟩) (Kd.R_far (p := ⟨gb152, 6, none⟩) (Kd.R_far (p := ⟨gb152, 5, none⟩) (Kd.R_far (p := ⟨gb152, 4, none⟩) (Kd.R_far (p := ⟨gb152, 3, none⟩) (Kd.R_far (p := ⟨gb152, 2, none⟩) (Kd.R_far (p := ⟨gb152, 1, none⟩) (Kd.R_far (p := ⟨gb152, 0, none⟩) (Kd.R_far (p := ⟨gb153, 7, none⟩) (Kd.R_types (Kd.R_types HO162.out BK153.out (by decide)) BK152.out (by decide)) (fun _ hk => hk.1.2) (.slice Ao37 t169.length co37)) (fun _ hk => hk.2) (.string a0_0)) (fun _ hk => hk.2) (.int .i64 a0_1)) (fun _ hk => hk.2) (.slice Ao17 t154.length co17)) (fun _ hk => hk.2) (.slice Ao21 t157.length co21)) (fun _ hk => hk.2) (.slice Ao25 t160.length co25)) (fun _ hk => hk.2) (.slice Ao29 t163.length co29)) (fun _ hk => hk.2) (.slice Ao33 t166.length co33)) (fun _ hk => hk.2) (.slice Ao37 t169.length co37)) (fun _ hk => trivial), by (with_reducible repeat (first | apply Kd.R_alloc | apply Kd.R_drewN | apply Kd.R_drew)); exact Kd.R_mono (Kd.R_far (p := ⟨gb152, 7, none⟩) (Kd.R_far (p := ⟨gb152, 6, none⟩) (Kd.R_far (p := ⟨gb152, 5, none⟩) (Kd.R_far (p := ⟨gb152, 4, none⟩) (Kd.R_far (p := ⟨gb152, 3, none⟩) (Kd.R_far (p := ⟨gb152, 2, none⟩) (Kd.R_far (p := ⟨gb152, 1, none⟩) (Kd.R_far (p := ⟨gb152, 0, none⟩) (Kd.R_far (p := ⟨gb153, 7, none⟩) (Kd.R_types (Kd.R_types HO165.out BK153.out (by decide)) BK152.out (by decide)) (fun _ hk => hk.1.2) (.slice Ao37 t169.length co37)) (fun _ hk => hk.2) (.string a0_0)) (fun _ hk => hk.2) (.int .i64 a0_1)) (fun _ hk => hk.2) (.slice Ao17 t154.length co17)) (fun _ hk => hk.2) (.slice Ao21 t157.length co21)) (fun _ hk => hk.2) (.slice Ao25 t160.length co25)) (fun _ hk => hk.2) (.slice Ao29 t163.length co29)) (fun _ hk => hk.2) (.slice Ao33 t166.length co33)) (fun _ hk => hk.2) (.slice Ao37 t169.length co37)) (fun _ hk => ⟨hk.1.1.1.2, hk.1.1.2⟩), by (with_reducible repeat (first | apply Kd.R_alloc | apply Kd.R_drewN | apply Kd.R_drew)); exact Kd.R_mono (Kd.R_far (p := ⟨gb152, 7, none⟩) (Kd.R_far (p := ⟨gb152, 6, none⟩) (Kd.R_far (p := ⟨gb152, 5, none⟩) (Kd.R_far (p := ⟨gb152, 4, none⟩) (Kd.R_far (p := ⟨gb152, 3, none⟩) (Kd.R_far (p := ⟨gb152, 2, none⟩) (Kd.R_far (p := ⟨gb152, 1, none⟩) (Kd.R_far (p := ⟨gb152, 0, none⟩) (Kd.R_far (p := ⟨gb153, 7, none⟩) (Kd.R_types (Kd.R_types HO168.out BK153.out (by decide)) BK152.out (by decide)) (fun _ hk => hk.1.2) (.slice Ao37 t169.length co37)) (fun _ hk => hk.2) (.string a0_0)) (fun _ hk => hk.2) (.int .i64 a0_1)) (fun _ hk => hk.2) (.slice Ao17 t154.length co17)) (fun _ hk => hk.2) (.slice Ao21 t157.length co21)) (fun _ hk => hk.2) (.slice Ao25 t160.length co25)) (fun _ hk => hk.2) (.slice Ao29 t163.length co29)) (fun _ hk => hk.2) (.slice Ao33 t166.length co33)) (fun _ hk => hk.2) (.slice Ao37 t169.length co37)) (fun _ hk => ⟨hk.1.1.1.2, hk.1.1.2⟩), by (with_reducible repeat (first | apply Kd.R_alloc | apply Kd.R_drewN | apply Kd.R_drew)); exact Kd.R_mono (Kd.R_far (p := ⟨gb152, 7, none⟩) (Kd.R_far (p := ⟨gb152, 6, none⟩) (Kd.R_far (p := ⟨gb152, 5, none⟩) (Kd.R_far (p := ⟨gb152, 4, none⟩) (Kd.R_far (p := ⟨gb152, 3, none⟩) (Kd.R_far (p := ⟨gb152, 2, none⟩) (Kd.R_far (p := ⟨gb152, 1, none⟩) (Kd.R_far (p := ⟨gb152, 0, none⟩) (Kd.R_far (p := ⟨gb153, 7, none⟩) (Kd.R_types (Kd.R_types HO171.out BK153.out (by decide)) BK152.out (by decide)) (fun _ hk => hk.1.2) (.slice Ao37 t169.length co37)) (fun _ hk => hk.2) (.string a0_0)) (fun _ hk => hk.2) (.int .i64 a0_1)) (fun _ hk => hk.2) (.slice Ao17 t154.length co17)) (fun _ hk => hk.2) (.slice Ao21 t157.length co21)) (fun _ hk => hk.2) (.slice Ao25 t160.length co25)) (fun _ hk => hk.2) (.slice Ao29 t163.length co29)) (fun _ hk => hk.2) (.slice Ao33 t166.length co33)) (fun _ hk => hk.2) (.slice Ao37 t169.length co37)) (fun _ hk => ⟨hk.1.1.1.2, hk.1.1.2⟩), bl⟩

/-! ### slices_Equal_string_string: function 90 -/
def slices_Equal_string_string.l0 : Nat → List ByteArray → List ByteArray → Int → Int → Option (Bool)
 | 0, _, _, _, _ => none
 | k + 1, x0, x1, x12, x13 => if x13 < x12 then (if 0 ≤ x13 then (if x13 < (x0.length : Int) then (if x13 < (x1.length : Int) then (if (rdOf ByteArray.empty x0 x13).toList = (rdOf ByteArray.empty x1 x13).toList then (slices_Equal_string_string.l0 k x0 x1 x12 (wrap64 (x13 + 1))) else (some false)) else (none)) else (none)) else (none)) else (some true)
def slices_Equal_string_string.f (k : Nat) (l0 : List ByteArray) (l1 : List ByteArray) : Option (Bool) := if (l0.length : Int) = (l1.length : Int) then (slices_Equal_string_string.l0 k l0 l1 (l0.length : Int) 0) else (some false)
theorem slices_Equal_string_string.mono_l : ∀ k, (∀ y0 y1 y2 y3, LeO (slices_Equal_string_string.l0 k y0 y1 y2 y3) (slices_Equal_string_string.l0 (k + 1) y0 y1 y2 y3))
 | 0 => fun _ _ _ _ r h => by simp [slices_Equal_string_string.l0] at h
 | k + 1 => by
  have ih0 := slices_Equal_string_string.mono_l k
  ·intro y0 y1 y2 y3
   unfold slices_Equal_string_string.l0
   exact mo
theorem slices_Equal_string_string.mono : ∀ a0 a1 k, LeO (slices_Equal_string_string.f k a0 a1) (slices_Equal_string_string.f (k + 1) a0 a1) := by
 intro a0 a1 k
 have ih0 := slices_Equal_string_string.mono_l k
 unfold slices_Equal_string_string.f
 exact mo
theorem slices_Equal_string_string.calls (k : Nat) (A0 : Option Addr) (c0 : Nat) (l0 : List ByteArray) (A1 : Option Addr) (c1 : Nat) (l1 : List ByteArray) (r : Bool) (w : World) (hr0 : Kd.C Kd.string w A0 l0.length l0) (hc0 : l0.length ≤ c0) (hr1 : Kd.C Kd.string w A1 l1.length l1) (hc1 : l1.length ≤ c1) (h : slices_Equal_string_string.f k l0 l1 = some r) :
  Calls Try.prog 90 #[.slice A0 l0.length c0, .slice A1 l1.length c1] w fun e w' => e = .returned (.bool r) ∧ Drawn0 w w' := by
 have HR0 := am hr0
 have HC0 := am hc0
 clear hr0 hc0
 have HR1 := am hr1
 have HC1 := am hc1
 clear hr1 hc1
 have H := h
 clear h
 unfold slices_Equal_string_string.f at H
 revert H; refine iQn (fun c3 c3b0 c3b1 H => ?_) fun c3 c3b0 c3b1 H => ?_
 ·have c3b2 : (l0.length == l1.length) = true := by first | simpa using c3 | (simp at c3 ⊢; omega)
  clear c3
  have H' := am H; clear H
  go_enter Try.func90, Try.ntmps90
  go_wp2
  repeat (go_quiet (fail); try go_wp2)
  go_loopg [13] k (fun kq v13 w' => ∃ (x13_1 : Int), v13 = .int .i64 x13_1 ∧ Aside0 (slices_Equal_string_string.l0 kq l0 l1 (l0.length : Int) x13_1 = some r) ∧ Aside0 (kq ≤ k) ∧ Drawn0 w w')
  case atStart => exact ⟨(0), (by first | rfl | (simp; done) | (simp [*]; done)), H', ⟨Nat.le_refl _⟩, by repeat (first | exact Drawn0.refl _ | apply Drawn0.step)⟩
  case round =>
   clear H'
   try clear c1; try clear c3; try clear c3b0; try clear c3b1; try clear c3b2
   obtain ⟨x13_1, rfl, HA, HK1, ⟨m1, rfl⟩⟩ := hrel
   cases gk with
   | zero => exact absurd HA.out (by simp [slices_Equal_string_string.l0])
   | succ k1 =>
    have H := HA.out
    clear HA
    simp only [slices_Equal_string_string.l0] at H
    revert H; refine iDb (fun c4b0 H => ?_) fun c4b0 H => ?_
    ·revert H; refine i1 fun c5b0 H => ?_
     revert H; refine i1 fun c6b0 H => ?_
     revert H; refine i1 fun c7b0 H => ?_
     revert H; refine iQ (fun c8b0 c8b1 H => ?_) fun c8 c8b0 c8b1 H => ?_
     ·have H' := am H; clear H
      have p172 : 0 ≤ (x13_1 : Int) := ode
      have q172 : x13_1 < (l0.length : Int) := ode
      obtain ⟨ad172, e172, hx172_0⟩ := Kd.at_string HR0.out x13_1 p172 q172
      cases e172
      replace p172 := eq_true p172
      replace q172 := eq_true q172
      have p173 : 0 ≤ (x13_1 : Int) := ode
      have q173 : x13_1 < (l1.length : Int) := ode
      obtain ⟨ad173, e173, hx173_0⟩ := Kd.at_string HR1.out x13_1 p173 q173
      cases e173
      replace p173 := eq_true p173
      replace q173 := eq_true q173
      go_wp2
      repeat (go_quiet (fail); try go_wp2)
      go_roundg k1
      case measure => have := HK1.out; omega
      case rel => exact ⟨(wrap64 (x13_1 + 1)), (by first | rfl | (simp; done) | (simp [*]; done)), H', ⟨by have := HK1.out; omega⟩, by repeat (first | exact Drawn0.refl _ | apply Drawn0.step)⟩
     obtain rfl := Option.some.inj H
     have p172 : 0 ≤ (x13_1 : Int) := ode
     have q172 : x13_1 < (l0.length : Int) := ode
     obtain ⟨ad172, e172, hx172_0⟩ := Kd.at_string HR0.out x13_1 p172 q172
     cases e172
     replace p172 := eq_true p172
     replace q172 := eq_true q172
     have p173 : 0 ≤ (x13_1 : Int) := ode
     have q173 : x13_1 < (l1.length : Int) := ode
     obtain ⟨ad173, e173, hx173_0⟩ := Kd.at_string HR1.out x13_1 p173 q173
     cases e173
     replace p173 := eq_true p173
     replace q173 := eq_true q173
     go_wp2
     repeat (go_quiet (fail); try go_wp2)
     go_ret
     exact ⟨by first | rfl | (simp; done) | (simp [*]; done), by repeat (first | exact Drawn0.refl _ | apply Drawn0.step)⟩
    obtain rfl := Option.some.inj H
    go_wp2
    repeat (go_quiet (fail); try go_wp2)
    go_ret
    exact ⟨by first | rfl | (simp; done) | (simp [*]; done), by repeat (first | exact Drawn0.refl _ | apply Drawn0.step)⟩
 have c3b2 : (l0.length == l1.length) = false := by first | simpa using c3 | (simp at c3 ⊢; omega)
 obtain rfl := Option.some.inj H
 go_enter Try.func90, Try.ntmps90
 go_wp2
 repeat (go_quiet (fail); try go_wp2)
 go_ret
 exact ⟨by first | rfl | (simp; done) | (simp [*]; done), by repeat (first | exact Drawn0.refl _ | apply Drawn0.step)⟩

/-! ### impl_Param: function 91 -/
def impl_Param.l0 : Nat → List (S82) → List (S82) → Int → Int → Option (Bool)
 | 0, _, _, _, _ => none
 | k + 1, x0, x1, x12, x13 => if x13 < x12 then (if 0 ≤ x13 then (if x13 < (x0.length : Int) then (if x13 < (x1.length : Int) then (if (!((((rd_T82 x0 x13).f0).toList) == (((rd_T82 x1 x13).f0).toList)) || (!(((rd_T82 x0 x13).f1) == ((rd_T82 x1 x13).f1)) || (!(((rd_T82 x0 x13).f2) == ((rd_T82 x1 x13).f2)) || (!(((rd_T82 x0 x13).f3) == ((rd_T82 x1 x13).f3)))))) = true then (some false) else (impl_Param.l0 k x0 x1 x12 (wrap64 (x13 + 1)))) else (none)) else (none)) else (none)) else (some true)
def impl_Param.f (k : Nat) (l0 : List (S82)) (l1 : List (S82)) : Option (Bool) := if (l0.length : Int) = (l1.length : Int) then (impl_Param.l0 k l0 l1 (l0.length : Int) 0) else (some false)
theorem impl_Param.mono_l : ∀ k, (∀ y0 y1 y2 y3, LeO (impl_Param.l0 k y0 y1 y2 y3) (impl_Param.l0 (k + 1) y0 y1 y2 y3))
 | 0 => fun _ _ _ _ r h => by simp [impl_Param.l0] at h
 | k + 1 => by
  have ih0 := impl_Param.mono_l k
  ·intro y0 y1 y2 y3
   unfold impl_Param.l0
   exact mo
theorem impl_Param.mono : ∀ a0 a1 k, LeO (impl_Param.f k a0 a1) (impl_Param.f (k + 1) a0 a1) := by
 intro a0 a1 k
 have ih0 := impl_Param.mono_l k
 unfold impl_Param.f
 exact mo
theorem impl_Param.calls (k : Nat) (A0 : Option Addr) (c0 : Nat) (l0 : List (S82)) (A1 : Option Addr) (c1 : Nat) (l1 : List (S82)) (r : Bool) (w : World) (hr0 : Kd.C k82 w A0 l0.length l0) (hc0 : l0.length ≤ c0) (hr1 : Kd.C k82 w A1 l1.length l1) (hc1 : l1.length ≤ c1) (h : impl_Param.f k l0 l1 = some r) :
  Calls Try.prog 91 #[.slice A0 l0.length c0, .slice A1 l1.length c1] w fun e w' => e = .returned (.bool r) ∧ Drawn0 w w' := by
 have hu82 := Try.underlying82
 have HR0 := am hr0
 have HC0 := am hc0
 clear hr0 hc0
 have HR1 := am hr1
 have HC1 := am hc1
 clear hr1 hc1
 have H := h
 clear h
 unfold impl_Param.f at H
 revert H; refine iQn (fun c3 c3b0 c3b1 H => ?_) fun c3 c3b0 c3b1 H => ?_
 ·have c3b2 : (l0.length == l1.length) = true := by first | simpa using c3 | (simp at c3 ⊢; omega)
  clear c3
  have H' := am H; clear H
  go_enter Try.func91, Try.ntmps91
  go_wp2
  repeat (go_quiet (fail); try go_wp2)
  go_loopg [13] k (fun kq v13 w' => ∃ (x13_1 : Int), v13 = .int .i64 x13_1 ∧ Aside0 (impl_Param.l0 kq l0 l1 (l0.length : Int) x13_1 = some r) ∧ Aside0 (kq ≤ k) ∧ Drawn0 w w')
  case atStart => exact ⟨(0), (by first | rfl | (simp; done) | (simp [*]; done)), H', ⟨Nat.le_refl _⟩, by repeat (first | exact Drawn0.refl _ | apply Drawn0.step)⟩
  case round =>
   clear H'
   try clear c1; try clear c3; try clear c3b0; try clear c3b1; try clear c3b2
   obtain ⟨x13_1, rfl, HA, HK1, ⟨m1, rfl⟩⟩ := hrel
   cases gk with
   | zero => exact absurd HA.out (by simp [impl_Param.l0])
   | succ k1 =>
    have H := HA.out
    clear HA
    simp only [impl_Param.l0] at H
    revert H; refine iDb (fun c4b0 H => ?_) fun c4b0 H => ?_
    ·revert H; refine i1 fun c5b0 H => ?_
     revert H; refine i1 fun c6b0 H => ?_
     revert H; refine i1 fun c7b0 H => ?_
     revert H; refine iB (fun c8 H => ?_) fun c8 H => ?_
     ·have c8b0 : (!((((rd_T82 l0 x13_1).f0).toList) == (((rd_T82 l1 x13_1).f0).toList)) || (!(((rd_T82 l0 x13_1).f1) == ((rd_T82 l1 x13_1).f1)) || (!(((rd_T82 l0 x13_1).f2) == ((rd_T82 l1 x13_1).f2)) || (!(((rd_T82 l0 x13_1).f3) == ((rd_T82 l1 x13_1).f3)))))) = true := c8
      clear c8
      obtain rfl := Option.some.inj H
      have p174 : 0 ≤ (x13_1 : Int) := ode
      have q174 : x13_1 < (l0.length : Int) := ode
      obtain ⟨ad174, e174, hx174_0, hx174_1, hx174_2, hx174_3⟩ := at_T82 HR0.out x13_1 p174 q174
      cases e174
      replace p174 := eq_true p174
      replace q174 := eq_true q174
      have p175 : 0 ≤ (x13_1 : Int) := ode
      have q175 : x13_1 < (l1.length : Int) := ode
      obtain ⟨ad175, e175, hx175_0, hx175_1, hx175_2, hx175_3⟩ := at_T82 HR1.out x13_1 p175 q175
      cases e175
      replace p175 := eq_true p175
      replace q175 := eq_true q175
      go_wp2
      repeat (go_quiet (fail); try go_wp2)
      go_ret
      exact ⟨by first | rfl | (simp; done) | (simp [*]; done), by repeat (first | exact Drawn0.refl _ | apply Drawn0.step)⟩
     have c8b0 : (!((((rd_T82 l0 x13_1).f0).toList) == (((rd_T82 l1 x13_1).f0).toList)) || (!(((rd_T82 l0 x13_1).f1) == ((rd_T82 l1 x13_1).f1)) || (!(((rd_T82 l0 x13_1).f2) == ((rd_T82 l1 x13_1).f2)) || (!(((rd_T82 l0 x13_1).f3) == ((rd_T82 l1 x13_1).f3)))))) = false := by simpa using c8
     clear c8
     have H' := am H; clear H
     have p174 : 0 ≤ (x13_1 : Int) := ode
     have q174 : x13_1 < (l0.length : Int) := ode
     obtain ⟨ad174, e174, hx174_0, hx174_1, hx174_2, hx174_3⟩ := at_T82 HR0.out x13_1 p174 q174
     cases e174
     replace p174 := eq_true p174
     replace q174 := eq_true q174
     have p175 : 0 ≤ (x13_1 : Int) := ode
     have q175 : x13_1 < (l1.length : Int) := ode
     obtain ⟨ad175, e175, hx175_0, hx175_1, hx175_2, hx175_3⟩ := at_T82 HR1.out x13_1 p175 q175
     cases e175
     replace p175 := eq_true p175
     replace q175 := eq_true q175
     go_wp2
     repeat (go_quiet (fail); try go_wp2)
     go_roundg k1
     case measure => have := HK1.out; omega
     case rel => exact ⟨(wrap64 (x13_1 + 1)), (by first | rfl | (simp; done) | (simp [*]; done)), H', ⟨by have := HK1.out; omega⟩, by repeat (first | exact Drawn0.refl _ | apply Drawn0.step)⟩
    obtain rfl := Option.some.inj H
    go_wp2
    repeat (go_quiet (fail); try go_wp2)
    go_ret
    exact ⟨by first | rfl | (simp; done) | (simp [*]; done), by repeat (first | exact Drawn0.refl _ | apply Drawn0.step)⟩
 have c3b2 : (l0.length == l1.length) = false := by first | simpa using c3 | (simp at c3 ⊢; omega)
 obtain rfl := Option.some.inj H
 go_enter Try.func91, Try.ntmps91
 go_wp2
 repeat (go_quiet (fail); try go_wp2)
 go_ret
 exact ⟨by first | rfl | (simp; done) | (simp [*]; done), by repeat (first | exact Drawn0.refl _ | apply Drawn0.step)⟩

end Go.Proofs.Ytpblcdafmpfemaa.PFnExactProductSame
