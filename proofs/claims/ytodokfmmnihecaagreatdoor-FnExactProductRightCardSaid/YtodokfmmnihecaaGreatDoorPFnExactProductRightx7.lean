-- laid by seedprint.py, a program of this session, over contracts that it gives by hand; Lean checks it
-- dented
import Derived.Test.YtodokfmmnihecaaGreatDoorQMin
import Derived.Test.YtodokfmmnihecaaGreatDoorQAut
import Derived.Test.YtodokfmmnihecaaGreatDoorQBlk
import Derived.Test.YtodokfmmnihecaaGreatDoorPFnExactProductRightx0
namespace Go.Proofs.YtodokfmmnihecaaGreatDoor.PFnExactProductRight
open Go.RowKit Go.Proofs.YtodokfmmnihecaaGreatDoorW.PrintWords Go.Proofs.YtodokfmmnihecaaGreatDoorW.PrintLast Go.Proofs.YtodokfmmnihecaaGreatDoorW.PrintMore
attribute [local go_sem] max2_int min2_int max_two min_two max_three min_three max_four min_four   -- for this text's walks alone
set_option maxHeartbeats 8000000
set_option maxRecDepth 100000
set_option linter.unusedVariables false
set_option linter.unusedSimpArgs false

/-! ### laws_toStringS: function 61 -/
def laws_toStringS.l0 : Nat → List ByteArray → List ByteArray → Int → Option (List ByteArray)
 | 0, _, _, _ => none
 | k + 1, x0, x3, x4 => if x4 < (x0.length : Int) then (if 0 ≤ x4 then (if x4 < (x3.length : Int) then (laws_toStringS.l0 k x0 (x3.set (x4 : Int).toNat (rdOf ByteArray.empty x0 x4)) (wrap64 (x4 + 1))) else (none)) else (none)) else (some x3)
def laws_toStringS.f (k : Nat) (l0 : List ByteArray) : Option (List ByteArray) := if 0 ≤ (l0.length : Int) then (if ((l0.length : Int) : Int).toNat ≤ 17592186044416 then (laws_toStringS.l0 k l0 (List.replicate ((l0.length : Int) : Int).toNat (⟨#[]⟩ : ByteArray)) 0) else (none)) else (none)
theorem laws_toStringS.mono_l : ∀ k, (∀ y0 y1 y2, LeO (laws_toStringS.l0 k y0 y1 y2) (laws_toStringS.l0 (k + 1) y0 y1 y2))
 | 0 => fun _ _ _ r h => by simp [laws_toStringS.l0] at h
 | k + 1 => by
  have ih0 := laws_toStringS.mono_l k
  ·intro y0 y1 y2
   unfold laws_toStringS.l0
   exact mo
theorem laws_toStringS.mono : ∀ a0 k, LeO (laws_toStringS.f k a0) (laws_toStringS.f (k + 1) a0) := by
 intro a0 k
 have ih0 := laws_toStringS.mono_l k
 unfold laws_toStringS.f
 exact mo
theorem laws_toStringS.calls (k : Nat) (A0 : Option Addr) (c0 : Nat) (l0 : List ByteArray) (r : List ByteArray) (w : World) (hr0 : Kd.C Kd.string w A0 l0.length l0) (hc0 : l0.length ≤ c0) (h : laws_toStringS.f k l0 = some r) :
  Calls Tryz.prog 61 #[.slice A0 l0.length c0] w fun e w' => ∃ v0_ : Value, e = .returned (v0_) ∧ Kd.R Kd.string 9 w' w.heap.size (fun _ => True) v0_ r ∧ Below w.heap.size w w' := by
 have HR0 := am hr0
 have HC0 := am hc0
 clear hr0 hc0
 have HB := am (Below.refl w.heap.size w)
 have H := h
 clear h
 unfold laws_toStringS.f at H
 revert H; refine i2 fun c2b0 c2b1 H => ?_
 revert H; refine i2 fun c3b0 c3b1 H => ?_
 generalize h_ : (List.replicate ((l0.length : Int) : Int).toNat (⟨#[]⟩ : ByteArray)) = y177 at H
 have Ny177 := am h_.symm; clear h_
 have H' := am H; clear H
 go_enter Tryz.func61, Tryz.ntmps61
 go_wp2_with (first | ((with_reducible refine gate_dst (N := 7) rfl ?_); refine Kd.R_make Kd.string _ 9 rfl (N := 7) rfl 22 _ _ rfl (l0.length : Int) rfl rfl Tryz.underlying22 (.string ⟨#[]⟩) 16 info9 rfl (by decide) (by omega) (⟨#[]⟩ : ByteArray) (ok := fun _ => True) (okp := fun _ => True) rfl (fun _ hk => hk) trivial (ode) (Nat.le_trans (Nat.mul_le_mul_right _ (ode : (l0.length : Int).toNat ≤ 17592186044416)) (by omega)) (Below.refl _ _) (Nat.le_refl _) ?_; intro v178 w4 ho5 hb hg_ hnew_; clear hg_ hnew_; (first | rw [← Ny177.out] at ho5 | (simp only [Int.reduceToNat] at ho5; rw [← Ny177.out] at ho5)); have HO179 := am (Kd.R_lower ho5 (below_size bl)); replace HB := am (below_step bl hb); clear hb ho5))
 go_loopg [4] k (fun kq v4 w' => ∃ (x3_1 : List ByteArray) (x4_1 : Int), v4 = .int .i64 x4_1 ∧ Aside0 (laws_toStringS.l0 kq l0 x3_1 x4_1 = some r) ∧ Aside0 (kq ≤ k) ∧ Aside0 (Kd.R Kd.string 9 w' w.heap.size (fun _ => True) v178 x3_1) ∧ Aside0 (Below w.heap.size w w'))
 case atStart => exact ⟨(y177), (0), rs, H', ⟨Nat.le_refl _⟩, ⟨kr HO179.out⟩, ⟨bl⟩⟩
 case round =>
  clear H'
  try clear c2b0; try clear c2b1; try clear c3b0; try clear c3b1
  obtain ⟨x3_1, x4_1, rfl, HA, HK1, HO_3, HB⟩ := hrel
  cases gk with
  | zero => exact absurd HA.out (by simp [laws_toStringS.l0])
  | succ k1 =>
   have H := HA.out
   clear HA
   simp only [laws_toStringS.l0] at H
   revert H; refine iDb (fun c6b0 H => ?_) fun c6b0 H => ?_
   ·revert H; refine i1 fun c7b0 H => ?_
    revert H; refine i1 fun c8b0 H => ?_
    generalize h_ : (x3_1.set (x4_1 : Int).toNat (rdOf ByteArray.empty l0 x4_1)) = y181 at H
    have Ny181 := am h_.symm; clear h_
    have H' := am H; clear H
    have p180 : 0 ≤ (x4_1 : Int) := ode
    have q180 : x4_1 < (l0.length : Int) := ode
    obtain ⟨ad180, e180, hx180_0⟩ := Kd.at_string HR0.out x4_1 p180 q180
    cases e180
    replace hx180_0 := hbc HB.out hx180_0
    replace p180 := eq_true p180
    replace q180 := eq_true q180
    have p9 : 0 ≤ (x4_1 : Int) := ode
    have q9 : (x4_1 : Int) < ((x3_1.length : Int) : Int) := ode
    obtain ⟨go9, co9, eo9, gb9, gl9, cl9, HG9⟩ := Kd.R_form HO_3.out (by omega)
    (first | cases eo9 | (injection eo9 with ea_ en_ ec_; (first | subst ea_ | (injection ea_ with ea_; subst ea_)); subst ec_; clear en_))
    have GB9 := am gb9
    have GG9 := am HG9
    clear gb9 gl9 HG9
    obtain ⟨hx9_0, hf9_0⟩ := Kd.R_celln (⟨#[]⟩ : ByteArray) HO_3.out (x4_1 : Int) p9 q9
    replace p9 := eq_true p9
    replace q9 := eq_true q9
    have HP10 := Kd.R_putg HO_3.out (x4_1 : Int) (rdOf ByteArray.empty l0 x4_1)
    go_wp2_with (first | ((with_reducible refine gate_store (t := 9) (p := 20) rfl ?_); refine store_event (t := 9) (p := 20) (v := ?vo_w11) (w1 := (wr.setCell ⟨go9, (x4_1 : Int).toNat, none⟩ (.string (rdOf ByteArray.empty l0 x4_1)))) ?hg ?ho ?hn ?hr ?_; (case ho => rfl); (case hg => rfl); (case hn => rfl); (case hr => first | (go_simp; done) | (go_simp; rfl)); intro w11 hw; have hg : wr.grownBy w11 (some go9) := (by rw [hw]; exact HP10.2); have hp_ : Kd.R Kd.string 9 w11 w.heap.size (fun _ => True) (.slice (some ⟨go9, 0, none⟩) x3_1.length co9) y181 := (by rw [hw, Ny181.out]; exact HP10.1); clear HP10; replace HO_3 := am (hp_); replace HB := am ((by rw [hw]; exact below_set (HB.out) GB9.out : Below w.heap.size w w11)); clear hg hw hp_))
    go_roundg k1
    case measure => have := HK1.out; omega
    case rel => exact ⟨(y181), (wrap64 (x4_1 + 1)), rs, H', ⟨by have := HK1.out; omega⟩, ⟨kr HO_3.out⟩, ⟨bl⟩⟩
   obtain rfl := Option.some.inj H
   go_wp2
   go_ret
   exact ⟨_, er, kr HO_3.out, bl⟩

/-! ### laws_toParam: function 128 -/
def laws_toParam.f (a0_0 : ByteArray) (a0_1 : Int) (a0_2 : Int) (a0_3 : Int) : Option (ByteArray × Int × Int × Int) := some (a0_0, a0_1, a0_2, a0_3)
theorem laws_toParam.calls (a0_0 : ByteArray) (a0_1 : Int) (a0_2 : Int) (a0_3 : Int) (r1 : ByteArray) (r2 : Int) (r3 : Int) (r4 : Int) (w : World) (h : laws_toParam.f a0_0 a0_1 a0_2 a0_3 = some (r1, r2, r3, r4)) :
  Calls Tryz.prog 128 #[.agg #[.string a0_0, .int .i64 a0_1, .int .i64 a0_2, .int .i64 a0_3]] w fun e w' => e = .returned (.agg #[.string r1, .int .i64 r2, .int .i64 r3, .int .i64 r4]) ∧ Below w.heap.size w w' := by
 have hu174 := Tryz.underlying174
 have hu75 := Tryz.underlying75
 have HB := am (Below.refl w.heap.size w)
 have H : (some (a0_0, a0_1, a0_2, a0_3)) = some (r1, r2, r3, r4) := h
 clear h
 simp only [Option.some.injEq, Prod.mk.injEq] at H
 obtain ⟨rfl, rfl, rfl, rfl⟩ := H
 go_enter Tryz.func128, Tryz.ntmps128
 go_wp2_with (first | (refine bx 1 #[.string a0_0, .int .i64 a0_1, .int .i64 a0_2, .int .i64 a0_3] 174 ?_; intro gb182 hg w2 hbox hb; have BK182 := am (hbox); have GW182 := am (bsz hg : w.heap.size ≤ gb182); have GE182 := GW182; replace HB := am (below_step bl hb); clear hb hbox hg) | (refine bx 2 #[.string (⟨#[]⟩ : ByteArray), .int .i64 0, .int .i64 0, .int .i64 0] 75 ?_; intro gb183 hg w3 hbox hb; have BK183 := am (hbox); have GW183 := am (bsz hg : w.heap.size ≤ gb183); have GE183 := GW183; have NB182_183 := am (ne1 hg BK182.out); have NB183_182 := am NB182_183.out.symm; replace BK182 := am (bkb BK182.out hb); replace HB := am (below_step bl hb); clear hb hbox hg) | (refine bx 3 #[.string (⟨#[]⟩ : ByteArray), .int .i64 0, .int .i64 0, .int .i64 0] 75 ?_; intro gb184 hg w4 hbox hb; have BK184 := am (hbox); have GW184 := am (bsz hg : w.heap.size ≤ gb184); have GE184 := GW184; have NB182_184 := am (ne1 hg BK182.out); have NB184_182 := am NB182_184.out.symm; replace BK182 := am (bkb BK182.out hb); have NB183_184 := am (ne1 hg BK183.out); have NB184_183 := am NB183_184.out.symm; replace BK183 := am (bkb BK183.out hb); replace HB := am (below_step bl hb); clear hb hbox hg; have hnb5 := NB182_183.out; have hnc5 := NB183_182.out; have hnb6 := NB182_184.out; have hnc6 := NB184_182.out; obtain ⟨z7_0, z7_1, z7_2, z7_3, y7_0, y7_1, y7_2, y7_3⟩ := blk4 BK182.out; have hnb8 := NB184_183.out; have hnc8 := NB183_184.out; obtain ⟨z9_0, z9_1, z9_2, z9_3, y9_0, y9_1, y9_2, y9_3⟩ := blk4 BK184.out; obtain ⟨z10_0, z10_1, z10_2, z10_3, y10_0, y10_1, y10_2, y10_3⟩ := blk4 BK183.out))
 refine bodyPost_ret (results_cell_row rfl _ _ gb183 75 #[.string a0_0, .int .i64 a0_1, .int .i64 a0_2, .int .i64 a0_3] (0, 0) _ rfl (bpf BK183.out NB183_184.out) Tryz.underlying75 rfl (by kernel_rfl)) rfl ?_
 exact ⟨er, bl⟩

/-! ### laws_toParamS: function 62 -/
def laws_toParamS.l0 : Nat → List (S174) → List (S75) → Int → Option ((List (S75)))
 | 0, _, _, _ => none
 | k + 1, x0, x3, x4 => if x4 < (x0.length : Int) then (if 0 ≤ x4 then ((laws_toParam.f ((rd_T174 x0 x4).f0) ((rd_T174 x0 x4).f1) ((rd_T174 x0 x4).f2) ((rd_T174 x0 x4).f3)).bind fun bt189 => (if x4 < (x3.length : Int) then (laws_toParamS.l0 k x0 (x3.set (x4 : Int).toNat (⟨bt189.1, bt189.2.1, bt189.2.2.1, bt189.2.2.2⟩ : S75)) (wrap64 (x4 + 1))) else (none))) else (none)) else (some x3)
def laws_toParamS.f (k : Nat) (l0 : List (S174)) : Option ((List (S75))) := if 0 ≤ (l0.length : Int) then (if ((l0.length : Int) : Int).toNat ≤ 7036874417766 then (laws_toParamS.l0 k l0 (List.replicate ((l0.length : Int) : Int).toNat z75) 0) else (none)) else (none)
theorem laws_toParamS.mono_l : ∀ k, (∀ y0 y1 y2, LeO (laws_toParamS.l0 k y0 y1 y2) (laws_toParamS.l0 (k + 1) y0 y1 y2))
 | 0 => fun _ _ _ r h => by simp [laws_toParamS.l0] at h
 | k + 1 => by
  have ih0 := laws_toParamS.mono_l k
  ·intro y0 y1 y2
   unfold laws_toParamS.l0
   exact mo
theorem laws_toParamS.mono : ∀ a0 k, LeO (laws_toParamS.f k a0) (laws_toParamS.f (k + 1) a0) := by
 intro a0 k
 have ih0 := laws_toParamS.mono_l k
 unfold laws_toParamS.f
 exact mo
theorem laws_toParamS.calls (k : Nat) (A0 : Option Addr) (c0 : Nat) (l0 : List (S174)) (r : List (S75)) (w : World) (hr0 : Kd.C k174 w A0 l0.length l0) (hc0 : l0.length ≤ c0) (h : laws_toParamS.f k l0 = some r) :
  Calls Tryz.prog 62 #[.slice A0 l0.length c0] w fun e w' => ∃ v0_ : Value, e = .returned (v0_) ∧ Kd.R k75 75 w' w.heap.size (fun _ => True) v0_ r ∧ Below w.heap.size w w' := by
 have hu174 := Tryz.underlying174
 have hu75 := Tryz.underlying75
 have HR0 := am hr0
 have HC0 := am hc0
 clear hr0 hc0
 have HB := am (Below.refl w.heap.size w)
 have H := h
 clear h
 unfold laws_toParamS.f at H
 revert H; refine i2 fun c2b0 c2b1 H => ?_
 revert H; refine i2 fun c3b0 c3b1 H => ?_
 generalize h_ : (List.replicate ((l0.length : Int) : Int).toNat z75) = y185 at H
 have Ny185 := am h_.symm; clear h_
 have H' := am H; clear H
 go_enter Tryz.func62, Tryz.ntmps62
 go_wp2_with (first | ((with_reducible refine gate_dst (N := 7) rfl ?_); refine Kd.R_make k75 _ 75 rfl (N := 7) rfl 29 _ _ rfl (l0.length : Int) rfl rfl Tryz.underlying29 (.agg #[(.string ⟨#[]⟩), (.int .i64 0), (.int .i64 0), (.int .i64 0)]) 40 info75 rfl (by decide) (by omega) z75 (ok := fun _ => True) (okp := fun _ => True) (k75_mkM _ _ _ z75 ) (fun _ hk => hk) trivial (ode) (Nat.le_trans (Nat.mul_le_mul_right _ (ode : (l0.length : Int).toNat ≤ 7036874417766)) (by omega)) (Below.refl _ _) (Nat.le_refl _) ?_; intro v186 w4 ho5 hb hg_ hnew_; clear hg_ hnew_; (first | rw [← Ny185.out] at ho5 | (simp only [Int.reduceToNat] at ho5; rw [← Ny185.out] at ho5)); have HO187 := am (Kd.R_lower ho5 (below_size bl)); replace HB := am (below_step bl hb); clear hb ho5))
 go_loopg [4] k (fun kq v4 w' => ∃ (x3_1 : List (S75)) (x4_1 : Int), v4 = .int .i64 x4_1 ∧ Aside0 (laws_toParamS.l0 kq l0 x3_1 x4_1 = some r) ∧ Aside0 (kq ≤ k) ∧ Aside0 (Kd.R k75 75 w' w.heap.size (fun _ => True) v186 x3_1) ∧ Aside0 (Below w.heap.size w w'))
 case atStart => exact ⟨(y185), (0), rs, H', ⟨Nat.le_refl _⟩, ⟨kr HO187.out⟩, ⟨bl⟩⟩
 case round =>
  clear H'
  try clear c2b0; try clear c2b1; try clear c3b0; try clear c3b1
  obtain ⟨x3_1, x4_1, rfl, HA, HK1, HO_3, HB⟩ := hrel
  cases gk with
  | zero => exact absurd HA.out (by simp [laws_toParamS.l0])
  | succ k1 =>
   have H := HA.out
   clear HA
   simp only [laws_toParamS.l0] at H
   revert H; refine iDb (fun c6b0 H => ?_) fun c6b0 H => ?_
   ·revert H; refine i1 fun c7b0 H => ?_
    replace H := bi H; obtain ⟨⟨t189, t190, t191, t192⟩, A8, H⟩ := H; dsimp only at H
    revert H; refine i1 fun c9b0 H => ?_
    generalize h_ : (x3_1.set (x4_1 : Int).toNat (⟨t189, t190, t191, t192⟩ : S75)) = y193 at H
    have Ny193 := am h_.symm; clear h_
    have H' := am H; clear H
    have p188 : 0 ≤ (x4_1 : Int) := ode
    have q188 : x4_1 < (l0.length : Int) := ode
    obtain ⟨ad188, e188, hx188_0, hx188_1, hx188_2, hx188_3⟩ := at_T174 HR0.out x4_1 p188 q188
    cases e188
    obtain ⟨hx188_0, hx188_1, hx188_2, hx188_3⟩ := hb4 HB.out hx188_0 hx188_1 hx188_2 hx188_3
    replace p188 := eq_true p188
    replace q188 := eq_true q188
    go_wp2_with (first | (refine gc 128 (some 20) Tryz.func128 (laws_toParam.calls _ _ _ _ _ _ _ _ _ A8.out) ?_; rintro e w11 ⟨rfl, hb⟩; refine ⟨_, rfl, ?_⟩; replace HO_3 := am (rb HO_3.out hb); replace HB := am (below_step bl hb); clear hb; have p10 : 0 ≤ (x4_1 : Int) := ode; have q10 : (x4_1 : Int) < ((x3_1.length : Int) : Int) := ode; obtain ⟨go10, co10, eo10, gb10, gl10, cl10, HG10⟩ := Kd.R_form HO_3.out (by omega); (first | cases eo10 | (injection eo10 with ea_ en_ ec_; (first | subst ea_ | (injection ea_ with ea_; subst ea_)); subst ec_; clear en_)); have GB10 := Aside0.mk gb10; have GG10 := Aside0.mk HG10; clear gb10 gl10 HG10; obtain ⟨ce10, hcl10, hM10, hcc10, hfr10⟩ := Kd.R_elem HO_3.out z75 (x4_1 : Int) p10 q10; obtain rfl := k75_openM hM10; have hx10_0 : w11.cell? ⟨go10, (x4_1 : Int).toNat * 4, none⟩ = some (.string ((rd_T75 x3_1 x4_1).f0)) := hcc10 0 _ rfl; have hx10_1 : w11.cell? ⟨go10, (x4_1 : Int).toNat * 4 + 1, none⟩ = some (.int .i64 ((rd_T75 x3_1 x4_1).f1)) := hcc10 1 _ rfl; have hx10_2 : w11.cell? ⟨go10, (x4_1 : Int).toNat * 4 + 2, none⟩ = some (.int .i64 ((rd_T75 x3_1 x4_1).f2)) := hcc10 2 _ rfl; have hx10_3 : w11.cell? ⟨go10, (x4_1 : Int).toNat * 4 + 3, none⟩ = some (.int .i64 ((rd_T75 x3_1 x4_1).f3)) := hcc10 3 _ rfl; have hf10_0 : w11.frozen? ⟨go10, (x4_1 : Int).toNat * 4, none⟩ = false := hfr10 0; have hf10_1 : w11.frozen? ⟨go10, (x4_1 : Int).toNat * 4 + 1, none⟩ = false := hfr10 1; have hf10_2 : w11.frozen? ⟨go10, (x4_1 : Int).toNat * 4 + 2, none⟩ = false := hfr10 2; have hf10_3 : w11.frozen? ⟨go10, (x4_1 : Int).toNat * 4 + 3, none⟩ = false := hfr10 3; clear hcl10 hcc10 hfr10 hM10; replace p10 := eq_true p10; replace q10 := eq_true q10; have HX12 := am (show Kd.R k75 75 w11 w.heap.size (fun _ => True) (.slice (some ⟨go10, 0, none⟩) x3_1.length co10) x3_1 from (kr HO_3.out)); obtain ⟨ce12, hcl12, hM12, hcc12, hfr12⟩ := Kd.R_elem HX12.out z75 (x4_1 : Int) (ode) (by have h_ : (x4_1 : Int) < ((x3_1.length : Int) : Int) := ode; first | exact h_ | (have e_ := (Kd.R_reads' HO_3.out).1; omega) | simpa using h_); obtain rfl := k75_openM hM12; have HP12 := Kd.R_seg HX12.out (x4_1 : Int) (ode) (by have h_ : (x4_1 : Int) < ((x3_1.length : Int) : Int) := ode; first | exact h_ | (have e_ := (Kd.R_reads' HO_3.out).1; omega) | simpa using h_) (seg := [.string t189, .int .i64 t190, .int .i64 t191, .int .i64 t192]) (j := 0) hcl12 hcc12 (show 4 ≤ 4 from by decide) (x' := (⟨t189, t190, t191, t192⟩ : S75)) (k75_mkM _ _ _ (⟨t189, t190, t191, t192⟩ : S75) ) (fun _ hk => hk); have hx12_0 := hcc12 0 _ rfl; (try simp only [show (k75).sz = 4 from rfl, Nat.mul_one, Nat.add_zero] at hx12_0); have hf12_0 := hfr12 0; (try simp only [show (k75).sz = 4 from rfl, Nat.mul_one, Nat.add_zero] at hf12_0); have hx12_1 := hcc12 1 _ rfl; (try simp only [show (k75).sz = 4 from rfl, Nat.mul_one, Nat.add_zero] at hx12_1); have hf12_1 := hfr12 1; (try simp only [show (k75).sz = 4 from rfl, Nat.mul_one, Nat.add_zero] at hf12_1); have hx12_2 := hcc12 2 _ rfl; (try simp only [show (k75).sz = 4 from rfl, Nat.mul_one, Nat.add_zero] at hx12_2); have hf12_2 := hfr12 2; (try simp only [show (k75).sz = 4 from rfl, Nat.mul_one, Nat.add_zero] at hf12_2); have hx12_3 := hcc12 3 _ rfl; (try simp only [show (k75).sz = 4 from rfl, Nat.mul_one, Nat.add_zero] at hx12_3); have hf12_3 := hfr12 3; (try simp only [show (k75).sz = 4 from rfl, Nat.mul_one, Nat.add_zero] at hf12_3); clear hcl12 hcc12 hfr12 hM12) | ((with_reducible refine gate_store (t := 75) (p := 21) rfl ?_); refine store_event (t := 75) (p := 21) (v := ?vo_w13) (w1 := ((((w11.setCell ⟨go10, (x4_1 : Int).toNat * 4, none⟩ (.string t189)).setCell ⟨go10, (x4_1 : Int).toNat * 4 + 1, none⟩ (.int .i64 t190)).setCell ⟨go10, (x4_1 : Int).toNat * 4 + 2, none⟩ (.int .i64 t191)).setCell ⟨go10, (x4_1 : Int).toNat * 4 + 3, none⟩ (.int .i64 t192))) ?hg ?ho ?hn ?hr ?_; (case ho => rfl); (case hg => rfl); (case hn => rfl); (case hr => first | (go_simp; done) | (go_simp; rfl)); intro w13 hw; have hg : w11.grownBy w13 (some go10) := (by rw [hw]; exact HP12.2); have hp_ : Kd.R k75 75 w13 w.heap.size (fun _ => True) (.slice (some ⟨go10, 0, none⟩) x3_1.length co10) y193 := (by rw [hw, Ny193.out]; exact HP12.1); clear HP12; replace HO_3 := am (hp_); replace HB := am ((by rw [hw]; exact below_set (below_set (below_set (below_set (HB.out) GB10.out) GB10.out) GB10.out) GB10.out : Below w.heap.size w w13)); clear hg hw hp_))
    go_roundg k1
    case measure => have := HK1.out; omega
    case rel => exact ⟨(y193), (wrap64 (x4_1 + 1)), rs, H', ⟨by have := HK1.out; omega⟩, ⟨kr HO_3.out⟩, ⟨bl⟩⟩
   obtain rfl := Option.some.inj H
   go_wp2
   go_ret
   exact ⟨_, er, kr HO_3.out, bl⟩

/-! ### laws_toNode: function 129 -/
def laws_toNode.f (a0_0 : Int) (a0_1 : ByteArray) (a0_2 : ByteArray) (a0_3 : Int) (a0_4 : Int) : Option (Int × ByteArray × ByteArray × Int × Int) := some (a0_0, a0_1, a0_2, a0_3, a0_4)
theorem laws_toNode.calls (a0_0 : Int) (a0_1 : ByteArray) (a0_2 : ByteArray) (a0_3 : Int) (a0_4 : Int) (r1 : Int) (r2 : ByteArray) (r3 : ByteArray) (r4 : Int) (r5 : Int) (w : World) (h : laws_toNode.f a0_0 a0_1 a0_2 a0_3 a0_4 = some (r1, r2, r3, r4, r5)) :
  Calls Tryz.prog 129 #[.agg #[.int .i64 a0_0, .string a0_1, .string a0_2, .int .i64 a0_3, .int .i64 a0_4]] w fun e w' => e = .returned (.agg #[.int .i64 r1, .string r2, .string r3, .int .i64 r4, .int .i64 r5]) ∧ Below w.heap.size w w' := by
 have hu176 := Tryz.underlying176
 have hu73 := Tryz.underlying73
 have HB := am (Below.refl w.heap.size w)
 have H : (some (a0_0, a0_1, a0_2, a0_3, a0_4)) = some (r1, r2, r3, r4, r5) := h
 clear h
 simp only [Option.some.injEq, Prod.mk.injEq] at H
 obtain ⟨rfl, rfl, rfl, rfl, rfl⟩ := H
 go_enter Tryz.func129, Tryz.ntmps129
 go_wp2_with (first | (refine bx 1 #[.int .i64 a0_0, .string a0_1, .string a0_2, .int .i64 a0_3, .int .i64 a0_4] 176 ?_; intro gb194 hg w2 hbox hb; have BK194 := am (hbox); have GW194 := am (bsz hg : w.heap.size ≤ gb194); have GE194 := GW194; replace HB := am (below_step bl hb); clear hb hbox hg) | (refine bx 2 #[.int .i64 0, .string (⟨#[]⟩ : ByteArray), .string (⟨#[]⟩ : ByteArray), .int .i64 0, .int .i64 0] 73 ?_; intro gb195 hg w3 hbox hb; have BK195 := am (hbox); have GW195 := am (bsz hg : w.heap.size ≤ gb195); have GE195 := GW195; have NB194_195 := am (ne1 hg BK194.out); have NB195_194 := am NB194_195.out.symm; replace BK194 := am (bkb BK194.out hb); replace HB := am (below_step bl hb); clear hb hbox hg) | (refine bx 3 #[.int .i64 0, .string (⟨#[]⟩ : ByteArray), .string (⟨#[]⟩ : ByteArray), .int .i64 0, .int .i64 0] 73 ?_; intro gb196 hg w4 hbox hb; have BK196 := am (hbox); have GW196 := am (bsz hg : w.heap.size ≤ gb196); have GE196 := GW196; have NB194_196 := am (ne1 hg BK194.out); have NB196_194 := am NB194_196.out.symm; replace BK194 := am (bkb BK194.out hb); have NB195_196 := am (ne1 hg BK195.out); have NB196_195 := am NB195_196.out.symm; replace BK195 := am (bkb BK195.out hb); replace HB := am (below_step bl hb); clear hb hbox hg; have hnb5 := NB194_195.out; have hnc5 := NB195_194.out; have hnb6 := NB194_196.out; have hnc6 := NB196_194.out; obtain ⟨z7_0, z7_1, z7_2, z7_3, z7_4, y7_0, y7_1, y7_2, y7_3, y7_4⟩ := blk5 BK194.out; have hnb8 := NB196_195.out; have hnc8 := NB195_196.out; obtain ⟨z9_0, z9_1, z9_2, z9_3, z9_4, y9_0, y9_1, y9_2, y9_3, y9_4⟩ := blk5 BK196.out; obtain ⟨z10_0, z10_1, z10_2, z10_3, z10_4, y10_0, y10_1, y10_2, y10_3, y10_4⟩ := blk5 BK195.out))
 refine bodyPost_ret (results_cell_row rfl _ _ gb195 73 #[.int .i64 a0_0, .string a0_1, .string a0_2, .int .i64 a0_3, .int .i64 a0_4] (0, 0) _ rfl (bpf BK195.out NB195_196.out) Tryz.underlying73 rfl (by kernel_rfl)) rfl ?_
 exact ⟨er, bl⟩

/-! ### laws_toNodeS: function 63 -/
def laws_toNodeS.l0 : Nat → List (S176) → List (S73) → Int → Option ((List (S73)))
 | 0, _, _, _ => none
 | k + 1, x0, x3, x4 => if x4 < (x0.length : Int) then (if 0 ≤ x4 then ((laws_toNode.f ((rd_T176 x0 x4).f0) ((rd_T176 x0 x4).f1) ((rd_T176 x0 x4).f2) ((rd_T176 x0 x4).f3) ((rd_T176 x0 x4).f4)).bind fun bt201 => (if x4 < (x3.length : Int) then (laws_toNodeS.l0 k x0 (x3.set (x4 : Int).toNat (⟨bt201.1, bt201.2.1, bt201.2.2.1, bt201.2.2.2.1, bt201.2.2.2.2⟩ : S73)) (wrap64 (x4 + 1))) else (none))) else (none)) else (some x3)
def laws_toNodeS.f (k : Nat) (l0 : List (S176)) : Option ((List (S73))) := if 0 ≤ (l0.length : Int) then (if ((l0.length : Int) : Int).toNat ≤ 5026338869833 then (laws_toNodeS.l0 k l0 (List.replicate ((l0.length : Int) : Int).toNat z73) 0) else (none)) else (none)
theorem laws_toNodeS.mono_l : ∀ k, (∀ y0 y1 y2, LeO (laws_toNodeS.l0 k y0 y1 y2) (laws_toNodeS.l0 (k + 1) y0 y1 y2))
 | 0 => fun _ _ _ r h => by simp [laws_toNodeS.l0] at h
 | k + 1 => by
  have ih0 := laws_toNodeS.mono_l k
  ·intro y0 y1 y2
   unfold laws_toNodeS.l0
   exact mo
theorem laws_toNodeS.mono : ∀ a0 k, LeO (laws_toNodeS.f k a0) (laws_toNodeS.f (k + 1) a0) := by
 intro a0 k
 have ih0 := laws_toNodeS.mono_l k
 unfold laws_toNodeS.f
 exact mo
theorem laws_toNodeS.calls (k : Nat) (A0 : Option Addr) (c0 : Nat) (l0 : List (S176)) (r : List (S73)) (w : World) (hr0 : Kd.C k176 w A0 l0.length l0) (hc0 : l0.length ≤ c0) (h : laws_toNodeS.f k l0 = some r) :
  Calls Tryz.prog 63 #[.slice A0 l0.length c0] w fun e w' => ∃ v0_ : Value, e = .returned (v0_) ∧ Kd.R k73 73 w' w.heap.size (fun _ => True) v0_ r ∧ Below w.heap.size w w' := by
 have hu176 := Tryz.underlying176
 have hu73 := Tryz.underlying73
 have HR0 := am hr0
 have HC0 := am hc0
 clear hr0 hc0
 have HB := am (Below.refl w.heap.size w)
 have H := h
 clear h
 unfold laws_toNodeS.f at H
 revert H; refine i2 fun c2b0 c2b1 H => ?_
 revert H; refine i2 fun c3b0 c3b1 H => ?_
 generalize h_ : (List.replicate ((l0.length : Int) : Int).toNat z73) = y197 at H
 have Ny197 := am h_.symm; clear h_
 have H' := am H; clear H
 go_enter Tryz.func63, Tryz.ntmps63
 go_wp2_with (first | ((with_reducible refine gate_dst (N := 7) rfl ?_); refine Kd.R_make k73 _ 73 rfl (N := 7) rfl 30 _ _ rfl (l0.length : Int) rfl rfl Tryz.underlying30 (.agg #[(.int .i64 0), (.string ⟨#[]⟩), (.string ⟨#[]⟩), (.int .i64 0), (.int .i64 0)]) 56 info73 rfl (by decide) (by omega) z73 (ok := fun _ => True) (okp := fun _ => True) (k73_mkM _ _ _ z73 ) (fun _ hk => hk) trivial (ode) (Nat.le_trans (Nat.mul_le_mul_right _ (ode : (l0.length : Int).toNat ≤ 5026338869833)) (by omega)) (Below.refl _ _) (Nat.le_refl _) ?_; intro v198 w4 ho5 hb hg_ hnew_; clear hg_ hnew_; (first | rw [← Ny197.out] at ho5 | (simp only [Int.reduceToNat] at ho5; rw [← Ny197.out] at ho5)); have HO199 := am (Kd.R_lower ho5 (below_size bl)); replace HB := am (below_step bl hb); clear hb ho5))
 go_loopg [4] k (fun kq v4 w' => ∃ (x3_1 : List (S73)) (x4_1 : Int), v4 = .int .i64 x4_1 ∧ Aside0 (laws_toNodeS.l0 kq l0 x3_1 x4_1 = some r) ∧ Aside0 (kq ≤ k) ∧ Aside0 (Kd.R k73 73 w' w.heap.size (fun _ => True) v198 x3_1) ∧ Aside0 (Below w.heap.size w w'))
 case atStart => exact ⟨(y197), (0), rs, H', ⟨Nat.le_refl _⟩, ⟨kr HO199.out⟩, ⟨bl⟩⟩
 case round =>
  clear H'
  try clear c2b0; try clear c2b1; try clear c3b0; try clear c3b1
  obtain ⟨x3_1, x4_1, rfl, HA, HK1, HO_3, HB⟩ := hrel
  cases gk with
  | zero => exact absurd HA.out (by simp [laws_toNodeS.l0])
  | succ k1 =>
   have H := HA.out
   clear HA
   simp only [laws_toNodeS.l0] at H
   revert H; refine iDb (fun c6b0 H => ?_) fun c6b0 H => ?_
   ·revert H; refine i1 fun c7b0 H => ?_
    replace H := bi H; obtain ⟨⟨t201, t202, t203, t204, t205⟩, A8, H⟩ := H; dsimp only at H
    revert H; refine i1 fun c9b0 H => ?_
    generalize h_ : (x3_1.set (x4_1 : Int).toNat (⟨t201, t202, t203, t204, t205⟩ : S73)) = y206 at H
    have Ny206 := am h_.symm; clear h_
    have H' := am H; clear H
    have p200 : 0 ≤ (x4_1 : Int) := ode
    have q200 : x4_1 < (l0.length : Int) := ode
    obtain ⟨ad200, e200, hx200_0, hx200_1, hx200_2, hx200_3, hx200_4⟩ := at_T176 HR0.out x4_1 p200 q200
    cases e200
    obtain ⟨hx200_0, hx200_1, hx200_2, hx200_3, hx200_4⟩ := hb5 HB.out hx200_0 hx200_1 hx200_2 hx200_3 hx200_4
    replace p200 := eq_true p200
    replace q200 := eq_true q200
    go_wp2_with (first | (refine gc 129 (some 20) Tryz.func129 (laws_toNode.calls _ _ _ _ _ _ _ _ _ _ _ A8.out) ?_; rintro e w11 ⟨rfl, hb⟩; refine ⟨_, rfl, ?_⟩; replace HO_3 := am (rb HO_3.out hb); replace HB := am (below_step bl hb); clear hb; have p10 : 0 ≤ (x4_1 : Int) := ode; have q10 : (x4_1 : Int) < ((x3_1.length : Int) : Int) := ode; obtain ⟨go10, co10, eo10, gb10, gl10, cl10, HG10⟩ := Kd.R_form HO_3.out (by omega); (first | cases eo10 | (injection eo10 with ea_ en_ ec_; (first | subst ea_ | (injection ea_ with ea_; subst ea_)); subst ec_; clear en_)); have GB10 := Aside0.mk gb10; have GG10 := Aside0.mk HG10; clear gb10 gl10 HG10; obtain ⟨ce10, hcl10, hM10, hcc10, hfr10⟩ := Kd.R_elem HO_3.out z73 (x4_1 : Int) p10 q10; obtain rfl := k73_openM hM10; have hx10_0 : w11.cell? ⟨go10, (x4_1 : Int).toNat * 5, none⟩ = some (.int .i64 ((rd_T73 x3_1 x4_1).f0)) := hcc10 0 _ rfl; have hx10_1 : w11.cell? ⟨go10, (x4_1 : Int).toNat * 5 + 1, none⟩ = some (.string ((rd_T73 x3_1 x4_1).f1)) := hcc10 1 _ rfl; have hx10_2 : w11.cell? ⟨go10, (x4_1 : Int).toNat * 5 + 2, none⟩ = some (.string ((rd_T73 x3_1 x4_1).f2)) := hcc10 2 _ rfl; have hx10_3 : w11.cell? ⟨go10, (x4_1 : Int).toNat * 5 + 3, none⟩ = some (.int .i64 ((rd_T73 x3_1 x4_1).f3)) := hcc10 3 _ rfl; have hx10_4 : w11.cell? ⟨go10, (x4_1 : Int).toNat * 5 + 4, none⟩ = some (.int .i64 ((rd_T73 x3_1 x4_1).f4)) := hcc10 4 _ rfl; have hf10_0 : w11.frozen? ⟨go10, (x4_1 : Int).toNat * 5, none⟩ = false := hfr10 0; have hf10_1 : w11.frozen? ⟨go10, (x4_1 : Int).toNat * 5 + 1, none⟩ = false := hfr10 1; have hf10_2 : w11.frozen? ⟨go10, (x4_1 : Int).toNat * 5 + 2, none⟩ = false := hfr10 2; have hf10_3 : w11.frozen? ⟨go10, (x4_1 : Int).toNat * 5 + 3, none⟩ = false := hfr10 3; have hf10_4 : w11.frozen? ⟨go10, (x4_1 : Int).toNat * 5 + 4, none⟩ = false := hfr10 4; clear hcl10 hcc10 hfr10 hM10; replace p10 := eq_true p10; replace q10 := eq_true q10; have HX12 := am (show Kd.R k73 73 w11 w.heap.size (fun _ => True) (.slice (some ⟨go10, 0, none⟩) x3_1.length co10) x3_1 from (kr HO_3.out)); obtain ⟨ce12, hcl12, hM12, hcc12, hfr12⟩ := Kd.R_elem HX12.out z73 (x4_1 : Int) (ode) (by have h_ : (x4_1 : Int) < ((x3_1.length : Int) : Int) := ode; first | exact h_ | (have e_ := (Kd.R_reads' HO_3.out).1; omega) | simpa using h_); obtain rfl := k73_openM hM12; have HP12 := Kd.R_seg HX12.out (x4_1 : Int) (ode) (by have h_ : (x4_1 : Int) < ((x3_1.length : Int) : Int) := ode; first | exact h_ | (have e_ := (Kd.R_reads' HO_3.out).1; omega) | simpa using h_) (seg := [.int .i64 t201, .string t202, .string t203, .int .i64 t204, .int .i64 t205]) (j := 0) hcl12 hcc12 (show 5 ≤ 5 from by decide) (x' := (⟨t201, t202, t203, t204, t205⟩ : S73)) (k73_mkM _ _ _ (⟨t201, t202, t203, t204, t205⟩ : S73) ) (fun _ hk => hk); have hx12_0 := hcc12 0 _ rfl; (try simp only [show (k73).sz = 5 from rfl, Nat.mul_one, Nat.add_zero] at hx12_0); have hf12_0 := hfr12 0; (try simp only [show (k73).sz = 5 from rfl, Nat.mul_one, Nat.add_zero] at hf12_0); have hx12_1 := hcc12 1 _ rfl; (try simp only [show (k73).sz = 5 from rfl, Nat.mul_one, Nat.add_zero] at hx12_1); have hf12_1 := hfr12 1; (try simp only [show (k73).sz = 5 from rfl, Nat.mul_one, Nat.add_zero] at hf12_1); have hx12_2 := hcc12 2 _ rfl; (try simp only [show (k73).sz = 5 from rfl, Nat.mul_one, Nat.add_zero] at hx12_2); have hf12_2 := hfr12 2; (try simp only [show (k73).sz = 5 from rfl, Nat.mul_one, Nat.add_zero] at hf12_2); have hx12_3 := hcc12 3 _ rfl; (try simp only [show (k73).sz = 5 from rfl, Nat.mul_one, Nat.add_zero] at hx12_3); have hf12_3 := hfr12 3; (try simp only [show (k73).sz = 5 from rfl, Nat.mul_one, Nat.add_zero] at hf12_3); have hx12_4 := hcc12 4 _ rfl; (try simp only [show (k73).sz = 5 from rfl, Nat.mul_one, Nat.add_zero] at hx12_4); have hf12_4 := hfr12 4; (try simp only [show (k73).sz = 5 from rfl, Nat.mul_one, Nat.add_zero] at hf12_4); clear hcl12 hcc12 hfr12 hM12) | ((with_reducible refine gate_store (t := 73) (p := 21) rfl ?_); refine store_event (t := 73) (p := 21) (v := ?vo_w13) (w1 := (((((w11.setCell ⟨go10, (x4_1 : Int).toNat * 5, none⟩ (.int .i64 t201)).setCell ⟨go10, (x4_1 : Int).toNat * 5 + 1, none⟩ (.string t202)).setCell ⟨go10, (x4_1 : Int).toNat * 5 + 2, none⟩ (.string t203)).setCell ⟨go10, (x4_1 : Int).toNat * 5 + 3, none⟩ (.int .i64 t204)).setCell ⟨go10, (x4_1 : Int).toNat * 5 + 4, none⟩ (.int .i64 t205))) ?hg ?ho ?hn ?hr ?_; (case ho => rfl); (case hg => rfl); (case hn => rfl); (case hr => first | (go_simp; done) | (go_simp; rfl)); intro w13 hw; have hg : w11.grownBy w13 (some go10) := (by rw [hw]; exact HP12.2); have hp_ : Kd.R k73 73 w13 w.heap.size (fun _ => True) (.slice (some ⟨go10, 0, none⟩) x3_1.length co10) y206 := (by rw [hw, Ny206.out]; exact HP12.1); clear HP12; replace HO_3 := am (hp_); replace HB := am ((by rw [hw]; exact below_set (below_set (below_set (below_set (below_set (HB.out) GB10.out) GB10.out) GB10.out) GB10.out) GB10.out : Below w.heap.size w w13)); clear hg hw hp_))
    go_roundg k1
    case measure => have := HK1.out; omega
    case rel => exact ⟨(y206), (wrap64 (x4_1 + 1)), rs, H', ⟨by have := HK1.out; omega⟩, ⟨kr HO_3.out⟩, ⟨bl⟩⟩
   obtain rfl := Option.some.inj H
   go_wp2
   go_ret
   exact ⟨_, er, kr HO_3.out, bl⟩

/-! ### laws_toProduct: function 15 -/
def laws_toProduct.f (k : Nat) (a0_0 : ByteArray) (a0_1 : Int) (l0_2 : List ByteArray) (l0_3 : List ByteArray) (l0_4 : List (S174)) (l0_5 : List (S176)) (l0_6 : List (S176)) (l0_7 : List (S176)) : Option (ByteArray × Int × List ByteArray × List ByteArray × (List (S75)) × (List (S73)) × (List (S73)) × (List (S73))) := (laws_toStringS.f k l0_2).bind fun t210 => ((laws_toStringS.f k l0_3).bind fun t213 => ((laws_toParamS.f k l0_4).bind fun t216 => ((laws_toNodeS.f k l0_5).bind fun t219 => ((laws_toNodeS.f k l0_6).bind fun t222 => ((laws_toNodeS.f k l0_7).bind fun t225 => (some (a0_0, a0_1, t210, t213, t216, t219, t222, t225)))))))
theorem laws_toProduct.mono : ∀ a0 a1 a2 a3 a4 a5 a6 a7 k, LeO (laws_toProduct.f k a0 a1 a2 a3 a4 a5 a6 a7) (laws_toProduct.f (k + 1) a0 a1 a2 a3 a4 a5 a6 a7) := by
 intro a0 a1 a2 a3 a4 a5 a6 a7 k
 unfold laws_toProduct.f
 repeat' (with_reducible first | exact laws_toNodeS.mono .. | exact laws_toParamS.mono .. | exact laws_toStringS.mono .. | exact LeO.refl _ | exact LeO.none _ | refine LeO.ite ?_ ?_ | refine LeO.bind ?_ (fun _ => ?_))
theorem laws_toProduct.calls (k : Nat) (a0_0 : ByteArray) (a0_1 : Int) (A0_2 : Option Addr) (c0_2 : Nat) (l0_2 : List ByteArray) (A0_3 : Option Addr) (c0_3 : Nat) (l0_3 : List ByteArray) (A0_4 : Option Addr) (c0_4 : Nat) (l0_4 : List (S174)) (A0_5 : Option Addr) (c0_5 : Nat) (l0_5 : List (S176)) (A0_6 : Option Addr) (c0_6 : Nat) (l0_6 : List (S176)) (A0_7 : Option Addr) (c0_7 : Nat) (l0_7 : List (S176)) (r1 : ByteArray) (r2 : Int) (r3 : List ByteArray) (r4 : List ByteArray) (r5 : List (S75)) (r6 : List (S73)) (r7 : List (S73)) (r8 : List (S73)) (w : World) (hr0_2 : Kd.C Kd.string w A0_2 l0_2.length l0_2) (hc0_2 : l0_2.length ≤ c0_2) (hr0_3 : Kd.C Kd.string w A0_3 l0_3.length l0_3) (hc0_3 : l0_3.length ≤ c0_3) (hr0_4 : Kd.C k174 w A0_4 l0_4.length l0_4) (hc0_4 : l0_4.length ≤ c0_4) (hr0_5 : Kd.C k176 w A0_5 l0_5.length l0_5) (hc0_5 : l0_5.length ≤ c0_5) (hr0_6 : Kd.C k176 w A0_6 l0_6.length l0_6) (hc0_6 : l0_6.length ≤ c0_6) (hr0_7 : Kd.C k176 w A0_7 l0_7.length l0_7) (hc0_7 : l0_7.length ≤ c0_7) (h : laws_toProduct.f k a0_0 a0_1 l0_2 l0_3 l0_4 l0_5 l0_6 l0_7 = some (r1, r2, r3, r4, r5, r6, r7, r8)) :
  Calls Tryz.prog 15 #[.agg #[.string a0_0, .int .i64 a0_1, .slice A0_2 l0_2.length c0_2, .slice A0_3 l0_3.length c0_3, .slice A0_4 l0_4.length c0_4, .slice A0_5 l0_5.length c0_5, .slice A0_6 l0_6.length c0_6, .slice A0_7 l0_7.length c0_7]] w fun e w' => ∃ v2_ v3_ v4_ v5_ v6_ v7_ : Value, e = .returned (.agg #[.string r1, .int .i64 r2, v2_, v3_, v4_, v5_, v6_, v7_]) ∧ Kd.R Kd.string 9 w' w.heap.size (fun k_ => some k_ ≠ (v3_ : Value).ownBlock) v2_ r3 ∧ Kd.R Kd.string 9 w' w.heap.size (fun k_ => some k_ ≠ (v2_ : Value).ownBlock) v3_ r4 ∧ Kd.R k75 75 w' w.heap.size (fun _ => True) v4_ r5 ∧ Kd.R k73 73 w' w.heap.size (fun k_ => some k_ ≠ (v6_ : Value).ownBlock ∧ some k_ ≠ (v7_ : Value).ownBlock) v5_ r6 ∧ Kd.R k73 73 w' w.heap.size (fun k_ => some k_ ≠ (v5_ : Value).ownBlock ∧ some k_ ≠ (v7_ : Value).ownBlock) v6_ r7 ∧ Kd.R k73 73 w' w.heap.size (fun k_ => some k_ ≠ (v5_ : Value).ownBlock ∧ some k_ ≠ (v6_ : Value).ownBlock) v7_ r8 ∧ Below w.heap.size w w' := by
 have hu26 := Tryz.underlying26
 have hu32 := Tryz.underlying32
 have HR0_2 := am hr0_2
 have HC0_2 := am hc0_2
 clear hr0_2 hc0_2
 have HR0_3 := am hr0_3
 have HC0_3 := am hc0_3
 clear hr0_3 hc0_3
 have HR0_4 := am hr0_4
 have HC0_4 := am hc0_4
 clear hr0_4 hc0_4
 have HR0_5 := am hr0_5
 have HC0_5 := am hc0_5
 clear hr0_5 hc0_5
 have HR0_6 := am hr0_6
 have HC0_6 := am hc0_6
 clear hr0_6 hc0_6
 have HR0_7 := am hr0_7
 have HC0_7 := am hc0_7
 clear hr0_7 hc0_7
 have HB := am (Below.refl w.heap.size w)
 have H : ((laws_toStringS.f k l0_2).bind fun t210 => ((laws_toStringS.f k l0_3).bind fun t213 => ((laws_toParamS.f k l0_4).bind fun t216 => ((laws_toNodeS.f k l0_5).bind fun t219 => ((laws_toNodeS.f k l0_6).bind fun t222 => ((laws_toNodeS.f k l0_7).bind fun t225 => (some (a0_0, a0_1, t210, t213, t216, t219, t222, t225)))))))) = some (r1, r2, r3, r4, r5, r6, r7, r8) := h
 clear h
 replace H := Option.bind_eq_some_iff.mp H
 obtain ⟨t210, A20, H⟩ := H
 replace H : ((laws_toStringS.f k l0_3).bind fun t213 => ((laws_toParamS.f k l0_4).bind fun t216 => ((laws_toNodeS.f k l0_5).bind fun t219 => ((laws_toNodeS.f k l0_6).bind fun t222 => ((laws_toNodeS.f k l0_7).bind fun t225 => (some (a0_0, a0_1, t210, t213, t216, t219, t222, t225))))))) = some (r1, r2, r3, r4, r5, r6, r7, r8) := H
 have A2 := am A20; clear A20
 replace H := Option.bind_eq_some_iff.mp H
 obtain ⟨t213, A30, H⟩ := H
 replace H : ((laws_toParamS.f k l0_4).bind fun t216 => ((laws_toNodeS.f k l0_5).bind fun t219 => ((laws_toNodeS.f k l0_6).bind fun t222 => ((laws_toNodeS.f k l0_7).bind fun t225 => (some (a0_0, a0_1, t210, t213, t216, t219, t222, t225)))))) = some (r1, r2, r3, r4, r5, r6, r7, r8) := H
 have A3 := am A30; clear A30
 replace H := Option.bind_eq_some_iff.mp H
 obtain ⟨t216, A40, H⟩ := H
 replace H : ((laws_toNodeS.f k l0_5).bind fun t219 => ((laws_toNodeS.f k l0_6).bind fun t222 => ((laws_toNodeS.f k l0_7).bind fun t225 => (some (a0_0, a0_1, t210, t213, t216, t219, t222, t225))))) = some (r1, r2, r3, r4, r5, r6, r7, r8) := H
 have A4 := am A40; clear A40
 replace H := Option.bind_eq_some_iff.mp H
 obtain ⟨t219, A50, H⟩ := H
 replace H : ((laws_toNodeS.f k l0_6).bind fun t222 => ((laws_toNodeS.f k l0_7).bind fun t225 => (some (a0_0, a0_1, t210, t213, t216, t219, t222, t225)))) = some (r1, r2, r3, r4, r5, r6, r7, r8) := H
 have A5 := am A50; clear A50
 replace H := Option.bind_eq_some_iff.mp H
 obtain ⟨t222, A60, H⟩ := H
 replace H : ((laws_toNodeS.f k l0_7).bind fun t225 => (some (a0_0, a0_1, t210, t213, t216, t219, t222, t225))) = some (r1, r2, r3, r4, r5, r6, r7, r8) := H
 have A6 := am A60; clear A60
 replace H := Option.bind_eq_some_iff.mp H
 obtain ⟨t225, A70, H⟩ := H
 replace H : (some (a0_0, a0_1, t210, t213, t216, t219, t222, t225)) = some (r1, r2, r3, r4, r5, r6, r7, r8) := H
 have A7 := am A70; clear A70
 simp only [Option.some.injEq, Prod.mk.injEq] at H
 obtain ⟨rfl, rfl, rfl, rfl, rfl, rfl, rfl, rfl⟩ := H
 go_enter Tryz.func15, Tryz.ntmps15
 go_wp2_with (first | (refine bx 1 #[.string a0_0, .int .i64 a0_1, .slice A0_2 l0_2.length c0_2, .slice A0_3 l0_3.length c0_3, .slice A0_4 l0_4.length c0_4, .slice A0_5 l0_5.length c0_5, .slice A0_6 l0_6.length c0_6, .slice A0_7 l0_7.length c0_7] 26 ?_; intro gb207 hg w8 hbox hb; have BK207 := am (hbox); have GW207 := am (bsz hg : w.heap.size ≤ gb207); have GE207 := GW207; replace HB := am (below_step bl hb); clear hb hbox hg) | (refine bx 2 #[.string (⟨#[]⟩ : ByteArray), .int .i64 0, .slice none 0 0, .slice none 0 0, .slice none 0 0, .slice none 0 0, .slice none 0 0, .slice none 0 0] 32 ?_; intro gb208 hg w9 hbox hb; have BK208 := am (hbox); have GW208 := am (bsz hg : w.heap.size ≤ gb208); have GE208 := GW208; have NB207_208 := am (ne1 hg BK207.out); have NB208_207 := am NB207_208.out.symm; replace BK207 := am (bkb BK207.out hb); replace HB := am (below_step bl hb); clear hb hbox hg) | (refine bx 3 #[.string (⟨#[]⟩ : ByteArray), .int .i64 0, .slice none 0 0, .slice none 0 0, .slice none 0 0, .slice none 0 0, .slice none 0 0, .slice none 0 0] 32 ?_; intro gb209 hg w10 hbox hb; have BK209 := am (hbox); have GW209 := am (bsz hg : w.heap.size ≤ gb209); have GE209 := GW209; have NB207_209 := am (ne1 hg BK207.out); have NB209_207 := am NB207_209.out.symm; replace BK207 := am (bkb BK207.out hb); have NB208_209 := am (ne1 hg BK208.out); have NB209_208 := am NB208_209.out.symm; replace BK208 := am (bkb BK208.out hb); replace HB := am (below_step bl hb); clear hb hbox hg; have hnb11 := NB207_208.out; have hnc11 := NB208_207.out; have hnb12 := NB207_209.out; have hnc12 := NB209_207.out; obtain ⟨z13_0, z13_1, z13_2, z13_3, z13_4, z13_5, z13_6, z13_7, y13_0, y13_1, y13_2, y13_3, y13_4, y13_5, y13_6, y13_7⟩ := blk8 BK207.out; have hnb14 := NB209_208.out; have hnc14 := NB208_209.out; obtain ⟨z15_0, z15_1, z15_2, z15_3, z15_4, z15_5, z15_6, z15_7, y15_0, y15_1, y15_2, y15_3, y15_4, y15_5, y15_6, y15_7⟩ := blk8 BK209.out) | (refine gc 61 (some 12) Tryz.func61 (laws_toStringS.calls _ _ _ _ _ _ ?side1 ?side2 A2.out) ?_; (case side1 => exact Kd.C_below HR0_2.out bl); (case side2 => exact HC0_2.out); rintro e w16 ⟨v211, rfl, ho0, hb⟩; refine ⟨_, rfl, ?_⟩; have HO212 := am (Kd.R_lower ho0 (below_size bl)); replace BK207 := am (blk_below (g := gb207) (o := .cells #[.string a0_0, .int .i64 a0_1, .slice A0_2 l0_2.length c0_2, .slice A0_3 l0_3.length c0_3, .slice A0_4 l0_4.length c0_4, .slice A0_5 l0_5.length c0_5, .slice A0_6 l0_6.length c0_6, .slice A0_7 l0_7.length c0_7] 26 (0, 0)) (bf BK207.out NB207_209.out) hb); replace BK208 := am (blk_below (g := gb208) (o := .cells #[.string (⟨#[]⟩ : ByteArray), .int .i64 0, .slice none 0 0, .slice none 0 0, .slice none 0 0, .slice none 0 0, .slice none 0 0, .slice none 0 0] 32 (0, 0)) (bf BK208.out NB208_209.out) hb); replace BK209 := am (blk_below (g := gb209) (o := .cells #[.string a0_0, .int .i64 a0_1, .slice none 0 0, .slice none 0 0, .slice none 0 0, .slice none 0 0, .slice none 0 0, .slice none 0 0] 32 (0, 0)) (bp BK209.out) hb); replace HB := am (below_step bl hb); clear hb ho0; obtain ⟨Ao17, co17, eo17⟩ := Kd.R_slice HO212.out; subst eo17; obtain ⟨z18_0, z18_1, z18_2, z18_3, z18_4, z18_5, z18_6, z18_7, y18_0, y18_1, y18_2, y18_3, y18_4, y18_5, y18_6, y18_7⟩ := blk8 BK209.out; obtain ⟨z19_0, z19_1, z19_2, z19_3, z19_4, z19_5, z19_6, z19_7, y19_0, y19_1, y19_2, y19_3, y19_4, y19_5, y19_6, y19_7⟩ := blk8 BK207.out) | (refine gc 61 (some 16) Tryz.func61 (laws_toStringS.calls _ _ _ _ _ _ ?side1 ?side2 A3.out) ?_; (case side1 => exact Kd.C_below HR0_3.out bl); (case side2 => exact HC0_3.out); rintro e w20 ⟨v214, rfl, ho0, hb⟩; refine ⟨_, rfl, ?_⟩; have HO215 := am (Kd.R_lower (Kd.R_new' ho0 (Kd.R_lt (by (with_reducible repeat (first | apply Kd.R_alloc | apply Kd.R_drewN | apply Kd.R_drew)); exact (Kd.R_mono (Kd.R_far (p := ⟨gb209, 2, none⟩) (Kd.R_types HO212.out BK209.out (by decide)) (fun _ hk => hk.2) (.slice Ao17 t210.length co17)) (fun _ h_ => h_.1))))) (below_size bl)); replace HO212 := am (Kd.R_elder' (by (with_reducible repeat (first | apply Kd.R_alloc | apply Kd.R_drewN | apply Kd.R_drew)); exact (Kd.R_mono (Kd.R_far (p := ⟨gb209, 2, none⟩) (Kd.R_types HO212.out BK209.out (by decide)) (fun _ hk => hk.2) (.slice Ao17 t210.length co17)) (fun _ h_ => h_.1))) (Kd.R_base ho0) hb); replace BK207 := am (blk_below (g := gb207) (o := .cells #[.string a0_0, .int .i64 a0_1, .slice A0_2 l0_2.length c0_2, .slice A0_3 l0_3.length c0_3, .slice A0_4 l0_4.length c0_4, .slice A0_5 l0_5.length c0_5, .slice A0_6 l0_6.length c0_6, .slice A0_7 l0_7.length c0_7] 26 (0, 0)) (bf BK207.out NB207_209.out) hb); replace BK208 := am (blk_below (g := gb208) (o := .cells #[.string (⟨#[]⟩ : ByteArray), .int .i64 0, .slice none 0 0, .slice none 0 0, .slice none 0 0, .slice none 0 0, .slice none 0 0, .slice none 0 0] 32 (0, 0)) (bf BK208.out NB208_209.out) hb); replace BK209 := am (blk_below (g := gb209) (o := .cells #[.string a0_0, .int .i64 a0_1, .slice Ao17 t210.length co17, .slice none 0 0, .slice none 0 0, .slice none 0 0, .slice none 0 0, .slice none 0 0] 32 (0, 0)) (bp BK209.out) hb); replace HB := am (below_step bl hb); clear hb ho0; obtain ⟨Ao21, co21, eo21⟩ := Kd.R_slice HO215.out; subst eo21; obtain ⟨z22_0, z22_1, z22_2, z22_3, z22_4, z22_5, z22_6, z22_7, y22_0, y22_1, y22_2, y22_3, y22_4, y22_5, y22_6, y22_7⟩ := blk8 BK209.out; obtain ⟨z23_0, z23_1, z23_2, z23_3, z23_4, z23_5, z23_6, z23_7, y23_0, y23_1, y23_2, y23_3, y23_4, y23_5, y23_6, y23_7⟩ := blk8 BK207.out) | (refine gc 62 (some 20) Tryz.func62 (laws_toParamS.calls _ _ _ _ _ _ ?side1 ?side2 A4.out) ?_; (case side1 => exact Kd.C_below HR0_4.out bl); (case side2 => exact HC0_4.out); rintro e w24 ⟨v217, rfl, ho0, hb⟩; refine ⟨_, rfl, ?_⟩; replace HO212 := am (Kd.R_below (by (with_reducible repeat (first | apply Kd.R_alloc | apply Kd.R_drewN | apply Kd.R_drew)); exact (Kd.R_mono (Kd.R_far (p := ⟨gb209, 3, none⟩) (Kd.R_types HO212.out BK209.out (by decide)) (fun _ hk => hk.2) (.slice Ao21 t213.length co21)) (fun _ h_ => h_.1))) hb); replace HO215 := am (Kd.R_below (by (with_reducible repeat (first | apply Kd.R_alloc | apply Kd.R_drewN | apply Kd.R_drew)); exact (Kd.R_mono (Kd.R_far (p := ⟨gb209, 3, none⟩) (Kd.R_types HO215.out BK209.out (by decide)) (fun _ hk => hk.2) (.slice Ao21 t213.length co21)) (fun _ h_ => h_.1))) hb); have HO218 := am (Kd.R_lower ho0 (below_size bl)); replace BK207 := am (blk_below (g := gb207) (o := .cells #[.string a0_0, .int .i64 a0_1, .slice A0_2 l0_2.length c0_2, .slice A0_3 l0_3.length c0_3, .slice A0_4 l0_4.length c0_4, .slice A0_5 l0_5.length c0_5, .slice A0_6 l0_6.length c0_6, .slice A0_7 l0_7.length c0_7] 26 (0, 0)) (bf BK207.out NB207_209.out) hb); replace BK208 := am (blk_below (g := gb208) (o := .cells #[.string (⟨#[]⟩ : ByteArray), .int .i64 0, .slice none 0 0, .slice none 0 0, .slice none 0 0, .slice none 0 0, .slice none 0 0, .slice none 0 0] 32 (0, 0)) (bf BK208.out NB208_209.out) hb); replace BK209 := am (blk_below (g := gb209) (o := .cells #[.string a0_0, .int .i64 a0_1, .slice Ao17 t210.length co17, .slice Ao21 t213.length co21, .slice none 0 0, .slice none 0 0, .slice none 0 0, .slice none 0 0] 32 (0, 0)) (bp BK209.out) hb); replace HB := am (below_step bl hb); clear hb ho0; obtain ⟨Ao25, co25, eo25⟩ := Kd.R_slice HO218.out; subst eo25; obtain ⟨z26_0, z26_1, z26_2, z26_3, z26_4, z26_5, z26_6, z26_7, y26_0, y26_1, y26_2, y26_3, y26_4, y26_5, y26_6, y26_7⟩ := blk8 BK209.out; obtain ⟨z27_0, z27_1, z27_2, z27_3, z27_4, z27_5, z27_6, z27_7, y27_0, y27_1, y27_2, y27_3, y27_4, y27_5, y27_6, y27_7⟩ := blk8 BK207.out) | (refine gc 63 (some 24) Tryz.func63 (laws_toNodeS.calls _ _ _ _ _ _ ?side1 ?side2 A5.out) ?_; (case side1 => exact Kd.C_below HR0_5.out bl); (case side2 => exact HC0_5.out); rintro e w28 ⟨v220, rfl, ho0, hb⟩; refine ⟨_, rfl, ?_⟩; replace HO212 := am (Kd.R_below (by (with_reducible repeat (first | apply Kd.R_alloc | apply Kd.R_drewN | apply Kd.R_drew)); exact (Kd.R_mono (Kd.R_far (p := ⟨gb209, 4, none⟩) (Kd.R_types HO212.out BK209.out (by decide)) (fun _ hk => hk.2) (.slice Ao25 t216.length co25)) (fun _ h_ => h_.1))) hb); replace HO215 := am (Kd.R_below (by (with_reducible repeat (first | apply Kd.R_alloc | apply Kd.R_drewN | apply Kd.R_drew)); exact (Kd.R_mono (Kd.R_far (p := ⟨gb209, 4, none⟩) (Kd.R_types HO215.out BK209.out (by decide)) (fun _ hk => hk.2) (.slice Ao25 t216.length co25)) (fun _ h_ => h_.1))) hb); replace HO218 := am (Kd.R_below (by (with_reducible repeat (first | apply Kd.R_alloc | apply Kd.R_drewN | apply Kd.R_drew)); exact (Kd.R_mono (Kd.R_far (p := ⟨gb209, 4, none⟩) (Kd.R_types HO218.out BK209.out (by decide)) (fun _ hk => hk.2) (.slice Ao25 t216.length co25)) (fun _ h_ => h_.1))) hb); have HO221 := am (Kd.R_lower ho0 (below_size bl)); replace BK207 := am (blk_below (g := gb207) (o := .cells #[.string a0_0, .int .i64 a0_1, .slice A0_2 l0_2.length c0_2, .slice A0_3 l0_3.length c0_3, .slice A0_4 l0_4.length c0_4, .slice A0_5 l0_5.length c0_5, .slice A0_6 l0_6.length c0_6, .slice A0_7 l0_7.length c0_7] 26 (0, 0)) (bf BK207.out NB207_209.out) hb); replace BK208 := am (blk_below (g := gb208) (o := .cells #[.string (⟨#[]⟩ : ByteArray), .int .i64 0, .slice none 0 0, .slice none 0 0, .slice none 0 0, .slice none 0 0, .slice none 0 0, .slice none 0 0] 32 (0, 0)) (bf BK208.out NB208_209.out) hb); replace BK209 := am (blk_below (g := gb209) (o := .cells #[.string a0_0, .int .i64 a0_1, .slice Ao17 t210.length co17, .slice Ao21 t213.length co21, .slice Ao25 t216.length co25, .slice none 0 0, .slice none 0 0, .slice none 0 0] 32 (0, 0)) (bp BK209.out) hb); replace HB := am (below_step bl hb); clear hb ho0; obtain ⟨Ao29, co29, eo29⟩ := Kd.R_slice HO221.out; subst eo29; obtain ⟨z30_0, z30_1, z30_2, z30_3, z30_4, z30_5, z30_6, z30_7, y30_0, y30_1, y30_2, y30_3, y30_4, y30_5, y30_6, y30_7⟩ := blk8 BK209.out; obtain ⟨z31_0, z31_1, z31_2, z31_3, z31_4, z31_5, z31_6, z31_7, y31_0, y31_1, y31_2, y31_3, y31_4, y31_5, y31_6, y31_7⟩ := blk8 BK207.out) | (refine gc 63 (some 28) Tryz.func63 (laws_toNodeS.calls _ _ _ _ _ _ ?side1 ?side2 A6.out) ?_; (case side1 => exact Kd.C_below HR0_6.out bl); (case side2 => exact HC0_6.out); rintro e w32 ⟨v223, rfl, ho0, hb⟩; refine ⟨_, rfl, ?_⟩; replace HO212 := am (Kd.R_below (by (with_reducible repeat (first | apply Kd.R_alloc | apply Kd.R_drewN | apply Kd.R_drew)); exact (Kd.R_mono (Kd.R_far (p := ⟨gb209, 5, none⟩) (Kd.R_types HO212.out BK209.out (by decide)) (fun _ hk => hk.2) (.slice Ao29 t219.length co29)) (fun _ h_ => h_.1))) hb); replace HO215 := am (Kd.R_below (by (with_reducible repeat (first | apply Kd.R_alloc | apply Kd.R_drewN | apply Kd.R_drew)); exact (Kd.R_mono (Kd.R_far (p := ⟨gb209, 5, none⟩) (Kd.R_types HO215.out BK209.out (by decide)) (fun _ hk => hk.2) (.slice Ao29 t219.length co29)) (fun _ h_ => h_.1))) hb); replace HO218 := am (Kd.R_below (by (with_reducible repeat (first | apply Kd.R_alloc | apply Kd.R_drewN | apply Kd.R_drew)); exact (Kd.R_mono (Kd.R_far (p := ⟨gb209, 5, none⟩) (Kd.R_types HO218.out BK209.out (by decide)) (fun _ hk => hk.2) (.slice Ao29 t219.length co29)) (fun _ h_ => h_.1))) hb); have HO224 := am (Kd.R_lower (Kd.R_new' ho0 (Kd.R_lt (by (with_reducible repeat (first | apply Kd.R_alloc | apply Kd.R_drewN | apply Kd.R_drew)); exact (Kd.R_mono (Kd.R_far (p := ⟨gb209, 5, none⟩) (Kd.R_types HO221.out BK209.out (by decide)) (fun _ hk => hk.2) (.slice Ao29 t219.length co29)) (fun _ h_ => h_.1))))) (below_size bl)); replace HO221 := am (Kd.R_elder' (by (with_reducible repeat (first | apply Kd.R_alloc | apply Kd.R_drewN | apply Kd.R_drew)); exact (Kd.R_mono (Kd.R_far (p := ⟨gb209, 5, none⟩) (Kd.R_types HO221.out BK209.out (by decide)) (fun _ hk => hk.2) (.slice Ao29 t219.length co29)) (fun _ h_ => h_.1))) (Kd.R_base ho0) hb); replace BK207 := am (blk_below (g := gb207) (o := .cells #[.string a0_0, .int .i64 a0_1, .slice A0_2 l0_2.length c0_2, .slice A0_3 l0_3.length c0_3, .slice A0_4 l0_4.length c0_4, .slice A0_5 l0_5.length c0_5, .slice A0_6 l0_6.length c0_6, .slice A0_7 l0_7.length c0_7] 26 (0, 0)) (bf BK207.out NB207_209.out) hb); replace BK208 := am (blk_below (g := gb208) (o := .cells #[.string (⟨#[]⟩ : ByteArray), .int .i64 0, .slice none 0 0, .slice none 0 0, .slice none 0 0, .slice none 0 0, .slice none 0 0, .slice none 0 0] 32 (0, 0)) (bf BK208.out NB208_209.out) hb); replace BK209 := am (blk_below (g := gb209) (o := .cells #[.string a0_0, .int .i64 a0_1, .slice Ao17 t210.length co17, .slice Ao21 t213.length co21, .slice Ao25 t216.length co25, .slice Ao29 t219.length co29, .slice none 0 0, .slice none 0 0] 32 (0, 0)) (bp BK209.out) hb); replace HB := am (below_step bl hb); clear hb ho0; obtain ⟨Ao33, co33, eo33⟩ := Kd.R_slice HO224.out; subst eo33; obtain ⟨z34_0, z34_1, z34_2, z34_3, z34_4, z34_5, z34_6, z34_7, y34_0, y34_1, y34_2, y34_3, y34_4, y34_5, y34_6, y34_7⟩ := blk8 BK209.out; obtain ⟨z35_0, z35_1, z35_2, z35_3, z35_4, z35_5, z35_6, z35_7, y35_0, y35_1, y35_2, y35_3, y35_4, y35_5, y35_6, y35_7⟩ := blk8 BK207.out) | (refine gc 63 (some 32) Tryz.func63 (laws_toNodeS.calls _ _ _ _ _ _ ?side1 ?side2 A7.out) ?_; (case side1 => exact Kd.C_below HR0_7.out bl); (case side2 => exact HC0_7.out); rintro e w36 ⟨v226, rfl, ho0, hb⟩; refine ⟨_, rfl, ?_⟩; replace HO212 := am (Kd.R_below (by (with_reducible repeat (first | apply Kd.R_alloc | apply Kd.R_drewN | apply Kd.R_drew)); exact (Kd.R_mono (Kd.R_far (p := ⟨gb209, 6, none⟩) (Kd.R_types HO212.out BK209.out (by decide)) (fun _ hk => hk.2) (.slice Ao33 t222.length co33)) (fun _ h_ => h_.1))) hb); replace HO215 := am (Kd.R_below (by (with_reducible repeat (first | apply Kd.R_alloc | apply Kd.R_drewN | apply Kd.R_drew)); exact (Kd.R_mono (Kd.R_far (p := ⟨gb209, 6, none⟩) (Kd.R_types HO215.out BK209.out (by decide)) (fun _ hk => hk.2) (.slice Ao33 t222.length co33)) (fun _ h_ => h_.1))) hb); replace HO218 := am (Kd.R_below (by (with_reducible repeat (first | apply Kd.R_alloc | apply Kd.R_drewN | apply Kd.R_drew)); exact (Kd.R_mono (Kd.R_far (p := ⟨gb209, 6, none⟩) (Kd.R_types HO218.out BK209.out (by decide)) (fun _ hk => hk.2) (.slice Ao33 t222.length co33)) (fun _ h_ => h_.1))) hb); have HO227 := am (Kd.R_lower (Kd.R_new' (Kd.R_new' ho0 (Kd.R_lt (by (with_reducible repeat (first | apply Kd.R_alloc | apply Kd.R_drewN | apply Kd.R_drew)); exact (Kd.R_mono (Kd.R_far (p := ⟨gb209, 6, none⟩) (Kd.R_types HO221.out BK209.out (by decide)) (fun _ hk => hk.2) (.slice Ao33 t222.length co33)) (fun _ h_ => h_.1))))) (Kd.R_lt (by (with_reducible repeat (first | apply Kd.R_alloc | apply Kd.R_drewN | apply Kd.R_drew)); exact (Kd.R_mono (Kd.R_far (p := ⟨gb209, 6, none⟩) (Kd.R_types HO224.out BK209.out (by decide)) (fun _ hk => hk.2) (.slice Ao33 t222.length co33)) (fun _ h_ => h_.1))))) (below_size bl)); replace HO221 := am (Kd.R_elder' (by (with_reducible repeat (first | apply Kd.R_alloc | apply Kd.R_drewN | apply Kd.R_drew)); exact (Kd.R_mono (Kd.R_far (p := ⟨gb209, 6, none⟩) (Kd.R_types HO221.out BK209.out (by decide)) (fun _ hk => hk.2) (.slice Ao33 t222.length co33)) (fun _ h_ => h_.1))) (Kd.R_base ho0) hb); replace HO224 := am (Kd.R_elder' (by (with_reducible repeat (first | apply Kd.R_alloc | apply Kd.R_drewN | apply Kd.R_drew)); exact (Kd.R_mono (Kd.R_far (p := ⟨gb209, 6, none⟩) (Kd.R_types HO224.out BK209.out (by decide)) (fun _ hk => hk.2) (.slice Ao33 t222.length co33)) (fun _ h_ => h_.1))) (Kd.R_base ho0) hb); replace BK207 := am (blk_below (g := gb207) (o := .cells #[.string a0_0, .int .i64 a0_1, .slice A0_2 l0_2.length c0_2, .slice A0_3 l0_3.length c0_3, .slice A0_4 l0_4.length c0_4, .slice A0_5 l0_5.length c0_5, .slice A0_6 l0_6.length c0_6, .slice A0_7 l0_7.length c0_7] 26 (0, 0)) (bf BK207.out NB207_209.out) hb); replace BK208 := am (blk_below (g := gb208) (o := .cells #[.string (⟨#[]⟩ : ByteArray), .int .i64 0, .slice none 0 0, .slice none 0 0, .slice none 0 0, .slice none 0 0, .slice none 0 0, .slice none 0 0] 32 (0, 0)) (bf BK208.out NB208_209.out) hb); replace BK209 := am (blk_below (g := gb209) (o := .cells #[.string a0_0, .int .i64 a0_1, .slice Ao17 t210.length co17, .slice Ao21 t213.length co21, .slice Ao25 t216.length co25, .slice Ao29 t219.length co29, .slice Ao33 t222.length co33, .slice none 0 0] 32 (0, 0)) (bp BK209.out) hb); replace HB := am (below_step bl hb); clear hb ho0; obtain ⟨Ao37, co37, eo37⟩ := Kd.R_slice HO227.out; subst eo37; obtain ⟨z38_0, z38_1, z38_2, z38_3, z38_4, z38_5, z38_6, z38_7, y38_0, y38_1, y38_2, y38_3, y38_4, y38_5, y38_6, y38_7⟩ := blk8 BK209.out; obtain ⟨z39_0, z39_1, z39_2, z39_3, z39_4, z39_5, z39_6, z39_7, y39_0, y39_1, y39_2, y39_3, y39_4, y39_5, y39_6, y39_7⟩ := blk8 BK208.out))
 refine bodyPost_ret (results_cell_row rfl _ _ gb208 32 #[.string a0_0, .int .i64 a0_1, .slice Ao17 t210.length co17, .slice Ao21 t213.length co21, .slice Ao25 t216.length co25, .slice Ao29 t219.length co29, .slice Ao33 t222.length co33, .slice Ao37 t225.length co37] (0, 0) _ rfl (bpf BK208.out NB208_209.out) Tryz.underlying32 rfl (by kernel_rfl)) rfl ?_
 exact ⟨_, _, _, _, _, _, er, by (with_reducible repeat (first | apply Kd.R_alloc | apply Kd.R_drewN | apply Kd.R_drew)); exact Kd.R_mono (Kd.R_far (p := ⟨gb208, 7, none⟩) (Kd.R_far (p := ⟨gb208, 6, none⟩) (Kd.R_far (p := ⟨gb208, 5, none⟩) (Kd.R_far (p := ⟨gb208, 4, none⟩) (Kd.R_far (p := ⟨gb208, 3, none⟩) (Kd.R_far (p := ⟨gb208, 2, none⟩) (Kd.R_far (p := ⟨gb208, 1, none⟩) (Kd.R_far (p := ⟨gb208, 0, none⟩) (Kd.R_far (p := ⟨gb209, 7, none⟩) (Kd.R_types (Kd.R_types HO212.out BK209.out (by decide)) BK208.out (by decide)) (fun _ hk => hk.1.2) (.slice Ao37 t225.length co37)) (fun _ hk => hk.2) (.string a0_0)) (fun _ hk => hk.2) (.int .i64 a0_1)) (fun _ hk => hk.2) (.slice Ao17 t210.length co17)) (fun _ hk => hk.2) (.slice Ao21 t213.length co21)) (fun _ hk => hk.2) (.slice Ao25 t216.length co25)) (fun _ hk => hk.2) (.slice Ao29 t219.length co29)) (fun _ hk => hk.2) (.slice Ao33 t222.length co33)) (fun _ hk => hk.2) (.slice Ao37 t225.length co37)) (fun _ hk => hk.1.1.2), by (with_reducible repeat (first | apply Kd.R_alloc | apply Kd.R_drewN | apply Kd.R_drew)); exact Kd.R_mono (Kd.R_far (p := ⟨gb208, 7, none⟩) (Kd.R_far (p := ⟨gb208, 6, none⟩) (Kd.R_far (p := ⟨gb208, 5, none⟩) (Kd.R_far (p := ⟨gb208, 4, none⟩) (Kd.R_far (p := ⟨gb208, 3, none⟩) (Kd.R_far (p := ⟨gb208, 2, none⟩) (Kd.R_far (p := ⟨gb208, 1, none⟩) (Kd.R_far (p := ⟨gb208, 0, none⟩) (Kd.R_far (p := ⟨gb209, 7, none⟩) (Kd.R_types (Kd.R_types HO215.out BK209.out (by decide)) BK208.out (by decide)) (fun _ hk => hk.1.2) (.slice Ao37 t225.length co37)) (fun _ hk => hk.2) (.string a0_0)) (fun _ hk => hk.2) (.int .i64 a0_1)) (fun _ hk => hk.2) (.slice Ao17 t210.length co17)) (fun _ hk => hk.2) (.slice Ao21 t213.length co21)) (fun _ hk => hk.2) (.slice Ao25 t216.length co25)) (fun _ hk => hk.2) (.slice Ao29 t219.length co29)) (fun _ hk => hk.2) (.slice Ao33 t222.length co33)) (fun _ hk => hk.2) (.slice Ao37 t225.length co37)) (fun _ hk => hk.1.1.2), by (with_reducible repeat (first | apply Kd.R_alloc | apply Kd.R_drewN | apply Kd.R_drew)); exact Kd.R_mono (Kd.R_far (p := ⟨gb208, 7, none⟩) (Kd.R_far (p := ⟨gb208, 6, none⟩) (Kd.R_far (p := ⟨gb208, 5, none⟩) (Kd.R_far (p := ⟨gb208, 4, none⟩) (Kd.R_far (p := ⟨gb208, 3, none⟩) (Kd.R_far (p := ⟨gb208, 2, none⟩) (Kd.R_far (p := ⟨gb208, 1, none⟩) (Kd.R_far (p := ⟨gb208, 0, none⟩) (Kd.R_far (p := ⟨gb209, 7, none⟩) (Kd.R_types (Kd.R_types HO218.out BK209.out (by decide)) BK208.out (by decide)) (fun _ hk => hk.1.2) (.slice Ao37 t225.length co37)) (fun _ hk => hk.2) (.string a0_0)) (fun _ hk => hk.2) (.int .i64 a0_1)) (fun _ hk => hk.2) (.slice Ao17 t210.length co17)) (fun _ hk => hk.2) (.slice Ao21 t213.length co21)) (fun _ hk => hk.2) (.slice Ao25 t216.length co25)) (fun _ hk => hk.2) (.slice Ao29 t219.length co29)) (fun _ hk => hk.2) (.slice Ao33 t222.length co33)) (fun _ hk => hk.2) (.slice Ao37 t225.length co37)) (fun _ hk => trivial), by (with_reducible repeat (first | apply Kd.R_alloc | apply Kd.R_drewN | apply Kd.R_drew)); exact Kd.R_mono (Kd.R_far (p := ⟨gb208, 7, none⟩) (Kd.R_far (p := ⟨gb208, 6, none⟩) (Kd.R_far (p := ⟨gb208, 5, none⟩) (Kd.R_far (p := ⟨gb208, 4, none⟩) (Kd.R_far (p := ⟨gb208, 3, none⟩) (Kd.R_far (p := ⟨gb208, 2, none⟩) (Kd.R_far (p := ⟨gb208, 1, none⟩) (Kd.R_far (p := ⟨gb208, 0, none⟩) (Kd.R_far (p := ⟨gb209, 7, none⟩) (Kd.R_types (Kd.R_types HO221.out BK209.out (by decide)) BK208.out (by decide)) (fun _ hk => hk.1.2) (.slice Ao37 t225.length co37)) (fun _ hk => hk.2) (.string a0_0)) (fun _ hk => hk.2) (.int .i64 a0_1)) (fun _ hk => hk.2) (.slice Ao17 t210.length co17)) (fun _ hk => hk.2) (.slice Ao21 t213.length co21)) (fun _ hk => hk.2) (.slice Ao25 t216.length co25)) (fun _ hk => hk.2) (.slice Ao29 t219.length co29)) (fun _ hk => hk.2) (.slice Ao33 t222.length co33)) (fun _ hk => hk.2) (.slice Ao37 t225.length co37)) (fun _ hk => ⟨hk.1.1.1.2, hk.1.1.2⟩), by (with_reducible repeat (first | apply Kd.R_alloc | apply Kd.R_drewN | apply Kd.R_drew)); exact Kd.R_mono (Kd.R_far (p := ⟨gb208, 7, none⟩) (Kd.R_far (p := ⟨gb208, 6, none⟩) (Kd.R_far (p := ⟨gb208, 5, none⟩) (Kd.R_far (p := ⟨gb208, 4, none⟩) (Kd.R_far (p := ⟨gb208, 3, none⟩) (Kd.R_far (p := ⟨gb208, 2, none⟩) (Kd.R_far (p := ⟨gb208, 1, none⟩) (Kd.R_far (p := ⟨gb208, 0, none⟩) (Kd.R_far (p := ⟨gb209, 7, none⟩) (Kd.R_types (Kd.R_types HO224.out BK209.out (by decide)) BK208.out (by decide)) (fun _ hk => hk.1.2) (.slice Ao37 t225.length co37)) (fun _ hk => hk.2) (.string a0_0)) (fun _ hk => hk.2) (.int .i64 a0_1)) (fun _ hk => hk.2) (.slice Ao17 t210.length co17)) (fun _ hk => hk.2) (.slice Ao21 t213.length co21)) (fun _ hk => hk.2) (.slice Ao25 t216.length co25)) (fun _ hk => hk.2) (.slice Ao29 t219.length co29)) (fun _ hk => hk.2) (.slice Ao33 t222.length co33)) (fun _ hk => hk.2) (.slice Ao37 t225.length co37)) (fun _ hk => ⟨hk.1.1.1.2, hk.1.1.2⟩), by (with_reducible repeat (first | apply Kd.R_alloc | apply Kd.R_drewN | apply Kd.R_drew)); exact Kd.R_mono (Kd.R_far (p := ⟨gb208, 7, none⟩) (Kd.R_far (p := ⟨gb208, 6, none⟩) (Kd.R_far (p := ⟨gb208, 5, none⟩) (Kd.R_far (p := ⟨gb208, 4, none⟩) (Kd.R_far (p := ⟨gb208, 3, none⟩) (Kd.R_far (p := ⟨gb208, 2, none⟩) (Kd.R_far (p := ⟨gb208, 1, none⟩) (Kd.R_far (p := ⟨gb208, 0, none⟩) (Kd.R_far (p := ⟨gb209, 7, none⟩) (Kd.R_types (Kd.R_types HO227.out BK209.out (by decide)) BK208.out (by decide)) (fun _ hk => hk.1.2) (.slice Ao37 t225.length co37)) (fun _ hk => hk.2) (.string a0_0)) (fun _ hk => hk.2) (.int .i64 a0_1)) (fun _ hk => hk.2) (.slice Ao17 t210.length co17)) (fun _ hk => hk.2) (.slice Ao21 t213.length co21)) (fun _ hk => hk.2) (.slice Ao25 t216.length co25)) (fun _ hk => hk.2) (.slice Ao29 t219.length co29)) (fun _ hk => hk.2) (.slice Ao33 t222.length co33)) (fun _ hk => hk.2) (.slice Ao37 t225.length co37)) (fun _ hk => ⟨hk.1.1.1.2, hk.1.1.2⟩), bl⟩

/-! ### strings_Trim: function 216 -/
def strings_Trim.f (a0 a1 : ByteArray) : Option ByteArray := if a0.size ≤ 9223372036854775807 ∧ a1.size < 4294967281 ∧ a1.data.toList.all (fun b => decide (b.toNat < 128)) = true then some ⟨(Lib.trimS a0.data.toList a1.data.toList).toArray⟩ else none
theorem strings_Trim.calls (a0 : ByteArray) (a1 : ByteArray) (r : ByteArray) (w : World) (h : strings_Trim.f a0 a1 = some r) :
  Calls Tryz.prog 216 #[.string a0, .string a1] w fun e w' => e = .returned (.string r) ∧ Below w.heap.size w w' := by
 unfold strings_Trim.f at h
 by_cases hd : a0.size ≤ 9223372036854775807 ∧ a1.size < 4294967281 ∧ a1.data.toList.all (fun b => decide (b.toNat < 128)) = true
 ·rw [if_pos hd] at h
  cases h
  exact Any.strings_Trim_laid Tryz.trim160 (by kernel_rfl) a0 a1 w hd.1 hd.2.1 (ascii_of_all hd.2.2)
 rw [if_neg hd] at h; cases h

/-! ### impl_isWord: function 182 -/
def impl_isWord.f (a0 : ByteArray) : Option (Bool) := if a0.toList = ([] : List UInt8) then (some false) else (if 0 ≤ 1 then (if 1 ≤ (a0.size : Int) then ((strings_Trim.f (a0.extract 0 1) (⟨#[97, 98, 99, 100, 101, 102, 103, 104, 105, 106, 107, 108, 109, 110, 111, 112, 113, 114, 115, 116, 117, 118, 119, 120, 121, 122]⟩ : ByteArray)).bind fun t228 => (if t228.toList = ([] : List UInt8) then ((strings_Trim.f a0 (⟨#[97, 98, 99, 100, 101, 102, 103, 104, 105, 106, 107, 108, 109, 110, 111, 112, 113, 114, 115, 116, 117, 118, 119, 120, 121, 122, 48, 49, 50, 51, 52, 53, 54, 55, 56, 57, 95]⟩ : ByteArray)).bind fun t229 => (some (t229.toList == ([] : List UInt8)))) else (some false))) else (none)) else (none))
theorem impl_isWord.calls (a0 : ByteArray) (r : Bool) (w : World) (h : impl_isWord.f a0 = some r) :
  Calls Tryz.prog 182 #[.string a0] w fun e w' => e = .returned (.bool r) ∧ Below w.heap.size w w' := by
 have HB := am (Below.refl w.heap.size w)
 have H := h
 clear h
 unfold impl_isWord.f at H
 revert H; refine iL (fun c2b0 c2b3 c2b1 H => ?_) fun c2 c2b0 c2b3 c2b1 H => ?_
 ·obtain rfl := Option.some.inj H
  go_enter Tryz.func182, Tryz.ntmps182
  go_wp2
  go_ret
  exact ⟨er, bl⟩
 revert H; refine i2 fun c3b0 c3b1 H => ?_
 revert H; refine i2 fun c4b0 c4b1 H => ?_
 revert H; refine bj fun t228 A5 H => ?_
 revert H; refine iL (fun c6b0 c6b3 c6b1 H => ?_) fun c6 c6b0 c6b3 c6b1 H => ?_
 ·revert H; refine bj fun t229 A7 H => ?_
  obtain rfl := Option.some.inj H
  go_enter Tryz.func182, Tryz.ntmps182
  go_wp2_with (first | (go_at_call 216; (with_reducible refine (strings_Trim.calls _ _ _ _ A5.out).mono ?_); rintro e w8 ⟨rfl, hb⟩; replace HB := am (below_step bl hb); clear hb) | (go_at_call 216; (with_reducible refine (strings_Trim.calls _ _ _ _ A7.out).mono ?_); rintro e w9 ⟨rfl, hb⟩; replace HB := am (below_step bl hb); clear hb))
  go_ret
  exact ⟨er, bl⟩
 obtain rfl := Option.some.inj H
 go_enter Tryz.func182, Tryz.ntmps182
 go_wp2_with (first | (go_at_call 216; (with_reducible refine (strings_Trim.calls _ _ _ _ A5.out).mono ?_); rintro e w10 ⟨rfl, hb⟩; replace HB := am (below_step bl hb); clear hb))
 go_ret
 exact ⟨er, bl⟩

/-! ### impl_NameRight: function 130 -/
def impl_NameRight.f (a0 : ByteArray) : Option (Bool) := if (a0.size : Int) ≤ 20 then ((impl_isWord.f a0).bind fun t230 => (some t230)) else (some false)
theorem impl_NameRight.calls (a0 : ByteArray) (r : Bool) (w : World) (h : impl_NameRight.f a0 = some r) :
  Calls Tryz.prog 130 #[.string a0] w fun e w' => e = .returned (.bool r) ∧ Below w.heap.size w w' := by
 have HB := am (Below.refl w.heap.size w)
 have H := h
 clear h
 unfold impl_NameRight.f at H
 revert H; refine iDn (fun c2 c2b0 H => ?_) fun c2 c2b0 H => ?_
 ·have c2b1 : decide (a0.size ≤ 20) = true := decide_eq_true (by omega)
  clear c2
  revert H; refine bj fun t230 A3 H => ?_
  obtain rfl := Option.some.inj H
  go_enter Tryz.func130, Tryz.ntmps130
  go_wp2_with (first | (go_at_call 182; (with_reducible refine (impl_isWord.calls _ _ _ A3.out).mono ?_); rintro e w4 ⟨rfl, hb⟩; replace HB := am (below_step bl hb); clear hb))
  go_ret
  exact ⟨er, bl⟩
 have c2b1 : decide (a0.size ≤ 20) = false := decide_eq_false (by omega)
 clear c2
 obtain rfl := Option.some.inj H
 go_enter Tryz.func130, Tryz.ntmps130
 go_wp2
 go_ret
 exact ⟨er, bl⟩

/-! ### strings_Contains: function 183 -/
def strings_Contains.f (a0 a1 : ByteArray) : Option Bool := if a0.size < 4294967281 then some (Lib.contains a0.data.toList a1.data.toList) else none
theorem strings_Contains.calls (a0 : ByteArray) (a1 : ByteArray) (r : Bool) (w : World) (hsh : Sh w) (h : strings_Contains.f a0 a1 = some r) :
  Calls Tryz.prog 183 #[.string a0, .string a1] w fun e w' => e = .returned (.bool r) ∧ Below w.heap.size w w' := by
 unfold strings_Contains.f at h
 by_cases hd : a0.size < 4294967281
 ·rw [if_pos hd] at h
  cases h
  obtain ⟨m, hm⟩ := hsh
  exact (Tryz.strings_Contains a0 a1 m w hd hm).mono fun e w' ⟨he, hw⟩ => ⟨he, hw ▸ Below.refl _ _⟩
 rw [if_neg hd] at h; cases h

/-! ### impl_Reserved: function 131 -/
def impl_Reserved.f (a0 : ByteArray) : Option (Bool) := if a0.toList = ([] : List UInt8) then (some false) else ((strings_Contains.f a0 (⟨#[32]⟩ : ByteArray)).bind fun t231 => (if t231 = true then (some false) else (if 1 + a0.size ≤ 9223372036854775807 then (if ((⟨#[32]⟩ : ByteArray) ++ a0).size + 1 ≤ 9223372036854775807 then ((strings_Contains.f (⟨#[32, 97, 110, 100, 32, 97, 109, 111, 117, 110, 116, 32, 98, 97, 108, 32, 98, 97, 110, 107, 32, 98, 97, 115, 105, 115, 32, 98, 111, 111, 108, 32, 99, 111, 110, 116, 114, 97, 32, 99, 111, 117, 110, 116, 32, 100, 97, 116, 101, 32, 100, 97, 121, 115, 32, 101, 108, 115, 101, 32, 102, 97, 108, 115, 101, 32, 102, 114, 111, 109, 32, 105, 102, 32, 105, 110, 115, 116, 97, 108, 109, 101, 110, 116, 32, 105, 110, 116, 32, 105, 110, 116, 101, 114, 101, 115, 116, 32, 108, 97, 116, 101, 114, 32, 108, 101, 97, 115, 116, 32, 108, 101, 116, 32, 109, 111, 110, 101, 121, 32, 109, 111, 115, 116, 32, 110, 101, 120, 116, 32, 110, 111, 116, 32, 111, 112, 101, 110, 32, 111, 114, 32, 112, 97, 114, 97, 109, 32, 112, 97, 121, 32, 112, 111, 115, 116, 32, 112, 114, 111, 100, 117, 99, 116, 32, 114, 97, 116, 101, 32, 114, 101, 106, 101, 99, 116, 32, 114, 101, 112, 101, 97, 116, 32, 115, 101, 116, 32, 115, 104, 97, 114, 101, 32, 115, 105, 110, 99, 101, 32, 115, 108, 111, 116, 32, 116, 105, 99, 107, 32, 116, 111, 32, 116, 111, 100, 97, 121, 32, 116, 114, 117, 101, 32]⟩ : ByteArray) (((⟨#[32]⟩ : ByteArray) ++ a0) ++ (⟨#[32]⟩ : ByteArray))).bind fun t232 => (some t232)) else (none)) else (none))))
theorem impl_Reserved.calls (a0 : ByteArray) (r : Bool) (w : World) (hsh : Sh w) (h : impl_Reserved.f a0 = some r) :
  Calls Tryz.prog 131 #[.string a0] w fun e w' => e = .returned (.bool r) ∧ Below w.heap.size w w' := by
 have HSH := am hsh; clear hsh
 have HB := am (Below.refl w.heap.size w)
 have H := h
 clear h
 unfold impl_Reserved.f at H
 revert H; refine iL (fun c2b0 c2b3 c2b1 H => ?_) fun c2 c2b0 c2b3 c2b1 H => ?_
 ·obtain rfl := Option.some.inj H
  go_enter Tryz.func131, Tryz.ntmps131
  go_wp2
  go_ret
  exact ⟨er, bl⟩
 revert H; refine bj fun t231 A3 H => ?_
 replace H := iT H; rcases H with ⟨rfl, H⟩ | ⟨rfl, H⟩
 ·obtain rfl := Option.some.inj H
  go_enter Tryz.func131, Tryz.ntmps131
  go_wp2_with (first | (go_at_call 183; (with_reducible refine (strings_Contains.calls _ _ _ _ ?side1 A3.out).mono ?_); (case side1 => exact Sh.below HSH.out bl); rintro e w5 ⟨rfl, hb⟩; replace HB := am (below_step bl hb); clear hb))
  go_ret
  exact ⟨er, bl⟩
 revert H; refine i0 fun c6 H => ?_
 have c6b0 := eq_true c6
 have c6b1 := decide_eq_true c6
 try have c6b2 : (9223372036854775807 < 1 + a0.size) = False := eq_false (Nat.not_lt.2 c6)
 revert H; refine i0 fun c7 H => ?_
 have c7b0 := eq_true c7
 have c7b1 := decide_eq_true c7
 try have c7b2 : (9223372036854775807 < ((⟨#[32]⟩ : ByteArray) ++ a0).size + 1) = False := eq_false (Nat.not_lt.2 c7)
 have c7z : 1 + a0.size + 1 ≤ 9223372036854775807 := by have q_ := c7; rw [ByteArray.size_append] at q_; exact q_
 have c7z0 : (1 + a0.size + 1 ≤ 9223372036854775807) = True := eq_true c7z
 have c7z2 : (9223372036854775807 < 1 + a0.size + 1) = False := eq_false (Nat.not_lt.2 c7z)
 revert H; refine bj fun t232 A8 H => ?_
 obtain rfl := Option.some.inj H
 go_enter Tryz.func131, Tryz.ntmps131
 go_wp2_with (first | (go_at_call 183; (with_reducible refine (strings_Contains.calls _ _ _ _ ?side1 A3.out).mono ?_); (case side1 => exact Sh.below HSH.out bl); rintro e w9 ⟨rfl, hb⟩; replace HB := am (below_step bl hb); clear hb) | (go_at_call 183; (with_reducible refine (strings_Contains.calls _ _ _ _ ?side1 A8.out).mono ?_); (case side1 => exact Sh.below HSH.out bl); rintro e w10 ⟨rfl, hb⟩; replace HB := am (below_step bl hb); clear hb))
 go_ret
 exact ⟨er, bl⟩

/-! ### impl_isFree: function 64 -/
def impl_isFree.f (a0 : ByteArray) : Option (Bool) := (impl_NameRight.f a0).bind fun t233 => (if t233 = true then ((impl_Reserved.f a0).bind fun t234 => (some (!t234))) else (some false))
theorem impl_isFree.calls (a0 : ByteArray) (r : Bool) (w : World) (hsh : Sh w) (h : impl_isFree.f a0 = some r) :
  Calls Tryz.prog 64 #[.string a0] w fun e w' => e = .returned (.bool r) ∧ Below w.heap.size w w' := by
 have HSH := am hsh; clear hsh
 have HB := am (Below.refl w.heap.size w)
 have H := h
 clear h
 unfold impl_isFree.f at H
 revert H; refine bj fun t233 A2 H => ?_
 replace H := iT H; rcases H with ⟨rfl, H⟩ | ⟨rfl, H⟩
 ·revert H; refine bj fun t234 A4 H => ?_
  obtain rfl := Option.some.inj H
  go_enter Tryz.func64, Tryz.ntmps64
  go_wp2_with (first | (refine gc 130 (some 4) Tryz.func130 (impl_NameRight.calls _ _ _ A2.out) ?_; rintro e w5 ⟨rfl, hb⟩; refine ⟨_, rfl, ?_⟩; replace HB := am (below_step bl hb); clear hb) | (go_at_call 131; (with_reducible refine (impl_Reserved.calls _ _ _ ?side1 A4.out).mono ?_); (case side1 => exact Sh.below HSH.out bl); rintro e w6 ⟨rfl, hb⟩; replace HB := am (below_step bl hb); clear hb))
  go_ret
  exact ⟨er, bl⟩
 obtain rfl := Option.some.inj H
 go_enter Tryz.func64, Tryz.ntmps64
 go_wp2_with (first | (refine gc 130 (some 4) Tryz.func130 (impl_NameRight.calls _ _ _ A2.out) ?_; rintro e w7 ⟨rfl, hb⟩; refine ⟨_, rfl, ?_⟩; replace HB := am (below_step bl hb); clear hb))
 go_ret
 exact ⟨er, bl⟩

/-! ### impl_in: function 66 -/
def impl_in.f (a0 : Int) (a1 : Int) (a2 : Int) : Option (Bool) := if a1 ≤ a0 then (some (decide (a0 ≤ a2))) else (some false)
theorem impl_in.calls (a0 : Int) (a1 : Int) (a2 : Int) (r : Bool) (w : World) (h : impl_in.f a0 a1 a2 = some r) :
  Calls Tryz.prog 66 #[.int .i64 a0, .int .i64 a1, .int .i64 a2] w fun e w' => e = .returned (.bool r) ∧ Drawn0 w w' := by
 have H := h
 clear h
 unfold impl_in.f at H
 revert H; refine iDb (fun c4b0 H => ?_) fun c4b0 H => ?_
 ·obtain rfl := Option.some.inj H
  go_enter Tryz.func66, Tryz.ntmps66
  go_wp2
  go_ret
  exact ⟨by first | rfl | (simp; done) | (simp [*]; done) | (simp [isE_bne]; done), by repeat (first | exact Drawn0.refl _ | apply Drawn0.step)⟩
 obtain rfl := Option.some.inj H
 go_enter Tryz.func66, Tryz.ntmps66
 go_wp2
 go_ret
 exact ⟨by first | rfl | (simp; done) | (simp [*]; done) | (simp [isE_bne]; done), by repeat (first | exact Drawn0.refl _ | apply Drawn0.step)⟩

/-! ### impl_isBasis: function 65 -/
def impl_isBasis.f (a0 : Int) : Option (Bool) := (impl_in.f a0 1 3).bind fun t235 => (some t235)
theorem impl_isBasis.calls (a0 : Int) (r : Bool) (w : World) (h : impl_isBasis.f a0 = some r) :
  Calls Tryz.prog 65 #[.int .i64 a0] w fun e w' => e = .returned (.bool r) ∧ Drawn0 w w' := by
 have H := h
 clear h
 unfold impl_isBasis.f at H
 revert H; refine bj fun t235 A2 H => ?_
 obtain rfl := Option.some.inj H
 go_enter Tryz.func65, Tryz.ntmps65
 go_wp2_with (first | (refine gc 66 (some 4) Tryz.func66 (impl_in.calls _ _ _ _ _ A2.out) ?_; rintro e w' ⟨rfl, ⟨nd, rfl⟩⟩; refine ⟨_, rfl, ?_⟩))
 go_ret
 exact ⟨by first | rfl | (simp; done) | (simp [*]; done) | (simp [isE_bne]; done), by repeat (first | exact Drawn0.refl _ | apply Drawn0.step)⟩

/-! ### slices_Grow_string_string: function 132 -/
/-- Growing the nil slice (no other is served). -/
def slices_Grow_string_string.f (l0 : List ByteArray) (a1 : Int) : Option (List ByteArray) := if l0.length = 0 ∧ 0 ≤ a1 ∧ a1 ≤ 1048576 then some [] else none
theorem slices_Grow_string_string.calls (A0 : Option Addr) (c0 : Nat) (l0 : List ByteArray) (a1 : Int) (r : List ByteArray) (w : World) (hr0 : Kd.C Kd.string w A0 l0.length l0) (hc0 : A0 = none ∧ c0 = 0) (h : slices_Grow_string_string.f l0 a1 = some r) :
  Calls Tryz.prog 132 #[.slice A0 l0.length c0, .int .i64 a1] w fun e w' => ∃ v0_ : Value, e = .returned (v0_) ∧ Kd.R Kd.string 9 w' w.heap.size (fun _ => True) v0_ r ∧ Below w.heap.size w w' := by
 obtain ⟨rfl, rfl⟩ := hc0
 unfold slices_Grow_string_string.f at h
 by_cases hd : l0.length = 0 ∧ 0 ≤ a1 ∧ a1 ≤ 1048576
 ·rw [if_pos hd] at h
  cases h
  obtain ⟨h1, h2, h3⟩ := hd
  obtain rfl : l0 = [] := List.eq_nil_of_length_eq_zero h1
  obtain ⟨n, rfl⟩ := Int.eq_ofNat_of_zero_le h2
  by_cases hn : n = 0
  ·subst hn
   refine (Any8.slices_Grow_room Tryz.gr132 none 0 0 0 w (by omega) (by omega) (by omega) (by omega)).mono ?_
   rintro e w' ⟨rfl, rfl⟩
   exact ⟨_, rfl, Kd.R_nil _ _ _ _ _, Below.refl _ _⟩
  obtain ⟨i0, hi, hzz⟩ := Option.map_eq_some_iff.1 info9
  simp only [Prod.mk.injEq] at hzz
  obtain ⟨hz0, hz1, hz2⟩ := hzz
  refine (Any8.slices_Grow_grow Tryz.gr132 i0 _ hi hz0 (by omega) none 0 0 n [] w (by omega) (by omega) (by rw [hz2]; omega) (by omega) (by simp) (fun _ => rfl) (fun a ha => by cases ha)).mono ?_
  rintro e w' ⟨rfl, rfl⟩
  refine ⟨_, rfl, Kd.R_of_own (World.ownsRow_made w.drew _ _ (Nat.le_refl _) ?_ ?_) (fun _ _ => trivial), ((Below.refl _ w).drew).alloc (Nat.le_refl _) _⟩
  ·exact Nat.le_trans (grownCap_le_maxLen w (0 + n) 0 _ (by unfold maxLen; omega)) (Nat.le_refl _)
  have hg := grownCap_ge w n 0 (Tryz.gr132_ren.t 25)
  rw [Array.size_append, Array.size_append, size_zeroCells, size_zeroCells]
  simp [Value.cells]
  omega
 rw [if_neg hd] at h; cases h

end Go.Proofs.YtodokfmmnihecaaGreatDoor.PFnExactProductRight
