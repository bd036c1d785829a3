import Derived.Test.YthpjnjplgmaofaaGreatDoorQMin
import Derived.Test.YthpjnjplgmaofaaGreatDoorQAut
import Derived.Test.YthpjnjplgmaofaaGreatDoorQBlk
import Derived.Test.YthpjnjplgmaofaaGreatDoorPFnExactVmNamedx0
namespace Go.Proofs.YthpjnjplgmaofaaGreatDoor.PFnExactVmNamed
open Go.RowKit Go.Proofs.YthpjnjplgmaofaaGreatDoorW.PrintWords Go.Proofs.YthpjnjplgmaofaaGreatDoorW.PrintLast Go.Proofs.YthpjnjplgmaofaaGreatDoorW.PrintMore
attribute [local go_sem] max2_int min2_int max_two min_two max_three min_three max_four min_four   -- for this text's walks alone
set_option maxHeartbeats 8000000
set_option maxRecDepth 100000
set_option linter.unusedVariables false
set_option linter.unusedSimpArgs false
def bV.l0 : Nat → List ByteArray → List ByteArray → Int → Option (List ByteArray)
 | 0, _, _, _ => none
 | k + 1, x0, x3, x4 => if x4 < (x0.length : Int) then (if 0 ≤ x4 then (if x4 < (x3.length : Int) then (bV.l0 k x0 (x3.set (x4 : Int).toNat (fG ByteArray.empty x0 x4)) (wrap64 (x4 + 1))) else (none)) else (none)) else (some x3)
def bV.f (k : Nat) (l0 : List ByteArray) : Option (List ByteArray) := if 0 ≤ (l0.length : Int) then (if ((l0.length : Int) : Int).toNat ≤ 17592186044416 then (bV.l0 k l0 (List.replicate ((l0.length : Int) : Int).toNat (⟨#[]⟩ : ByteArray)) 0) else (none)) else (none)
theorem bV.bI : ∀ k, (∀ y0 y1 y2, LeO (bV.l0 k y0 y1 y2) (bV.l0 (k + 1) y0 y1 y2))
 | 0 => fun _ _ _ r h => by simp [bV.l0] at h
 | k + 1 => by
  have ih0 := bV.bI k
  ·intro y0 y1 y2
   unfold bV.l0
   exact mo
theorem bV.mono : ∀ a0 k, LeO (bV.f k a0) (bV.f (k + 1) a0) := by
 intro a0 k
 have ih0 := bV.bI k
 unfold bV.f
 exact mo
theorem bV.calls (k : Nat) (A0 : Option Addr) (c0 : Nat) (l0 : List ByteArray) (r : List ByteArray) (w : World) (hr0 : Kd.C Kd.string w A0 l0.length l0) (hc0 : l0.length ≤ c0) (h : bV.f k l0 = some r) :
  Calls Tryz.prog 22 #[.slice A0 l0.length c0] w fun e w' => ∃ v0_ : Value, e = .returned (v0_) ∧ Kd.R Kd.string 9 w' w.heap.size (fun _ => True) v0_ r ∧ Below w.heap.size w w' := by
 have Kj := am hr0
 have Po := am hc0
 clear hr0 hc0
 have HB := am (Below.refl w.heap.size w)
 have H := h
 clear h
 unfold bV.f at H
 revert H; refine i2 fun Gq Gs H => ?_
 revert H; refine i2 fun Gu Gv H => ?_
 generalize h_ : ((List.replicate ((l0.length : Int) : Int).toNat (⟨#[]⟩ : ByteArray)) : List ByteArray) = Pp at H
 have Jx := am h_.symm; clear h_; try rw [Option.bind_some] at H
 have H' := am H; clear H
 go_enter Tryz.func22, Tryz.ntmps22
 go_wp2_with (first | ((with_reducible refine dH (N := 7) rfl ?_); refine Kd.pI Kd.string _ 9 rfl (N := 7) rfl 22 _ _ rfl (l0.length : Int) rfl rfl Tryz.underlying22 (.string ⟨#[]⟩) 16 jq rfl (by decide) (by omega) (⟨#[]⟩ : ByteArray) (ok := fun _ => True) (okp := fun _ => True) rfl (fun _ hk => hk) trivial (ode) (Nat.le_trans (Nat.mul_le_mul_right _ (ode : (l0.length : Int).toNat ≤ 17592186044416)) (by omega)) (Below.refl _ _) (Nat.le_refl _) ?_; intro v201 w4 ho5 hb hg_ hnew_; clear hg_ hnew_; (first | rw [← Jx.out] at ho5 | (simp only [Int.reduceToNat] at ho5; rw [← Jx.out] at ho5)); have Ld := am (Kd.bz ho5 (az bl)); replace HB := ho hb; clear hb ho5))
 go_loopg [4] k (fun kq v4 w' => ∃ (x3_1 : List ByteArray) (x4_1 : Int), v4 = .int .i64 x4_1 ∧ aa (bV.l0 kq l0 x3_1 x4_1 = some r) ∧ aa (kq ≤ k) ∧ aa (Kd.R Kd.string 9 w' w.heap.size (fun _ => True) v201 x3_1) ∧ aa (Below w.heap.size w w'))
 case atStart => exact ⟨(Pp), (0), rs, H', ⟨Nat.le_refl _⟩, ⟨kr Ld.out⟩, ⟨bl⟩⟩
 case round =>
  clear H'
  try clear Gq; try clear Gs; try clear Gu; try clear Gv
  obtain ⟨x3_1, x4_1, rfl, HA, Jj, Cd, HB⟩ := hrel
  cases gk with
  | zero => exact absurd HA.out (by simp [bV.l0])
  | succ k1 =>
   have H := HA.out
   clear HA
   simp only [bV.l0] at H
   revert H; refine iDb (fun Gw H => ?_) fun Gw H => ?_
   ·revert H; refine i1 fun Kk H => ?_
    revert H; refine i1 fun Ru H => ?_
    generalize h_ : ((x3_1.set (x4_1 : Int).toNat (fG ByteArray.empty l0 x4_1)) : List ByteArray) = Lh at H
    have Lj := am h_.symm; clear h_; try rw [Option.bind_some] at H
    have H' := am H; clear H
    have Kl : 0 ≤ (x4_1 : Int) := ode
    have Km : x4_1 < (l0.length : Int) := ode
    obtain ⟨Qk, e203, Gz⟩ := Kd.eQ Kj.out x4_1 Kl Km
    cases e203
    replace Gz := hbc HB.out Gz
    replace Kl := eq_true Kl
    replace Km := eq_true Km
    have p9 : 0 ≤ (x4_1 : Int) := ode
    have q9 : (x4_1 : Int) < ((x3_1.length : Int) : Int) := ode
    obtain ⟨Pq, Rw, Ql, Qm, Rx, Sj, Qn⟩ := Kd.kH Cd.out (by omega)
    (first | cases Ql | (injection Ql with ea_ en_ ec_; (first | subst ea_ | (injection ea_ with ea_; subst ea_)); subst ec_; clear en_))
    have Ry := am Qm
    have Sl := am Qn
    clear Qm Rx Qn
    obtain ⟨Qo, Qp⟩ := Kd.pJ (⟨#[]⟩ : ByteArray) Cd.out (x4_1 : Int) p9 q9
    replace p9 := eq_true p9
    replace q9 := eq_true q9
    have Kn := Kd.vT Cd.out (x4_1 : Int) (fG ByteArray.empty l0 x4_1)
    go_wp2_with (first | ((with_reducible refine eB (t := 9) (p := 20) rfl ?_); refine dV (t := 9) (p := 20) (v := ?vo_w11) (w1 := (wr.setCell ⟨Pq, (x4_1 : Int).toNat, none⟩ (.string (fG ByteArray.empty l0 x4_1)))) ?hg ?ho ?hn ?hr ?_; (case ho => rfl); (case hg => rfl); (case hn => rfl); (case hr => first | (go_simp; done) | (go_simp; rfl)); intro w11 hw; have hg : wr.grownBy w11 (some Pq) := (by rw [hw]; exact Kn.2); have hp_ : Kd.R Kd.string 9 w11 w.heap.size (fun _ => True) (.slice (some ⟨Pq, 0, none⟩) x3_1.length Rw) Lh := (by rw [hw, Lj.out]; exact Kn.1); clear Kn; replace Cd := am (hp_); replace HB := am ((by rw [hw]; exact bJ (HB.out) Ry.out : Below w.heap.size w w11)); clear hg hw hp_))
    go_roundg k1
    case measure => have := Jj.out; omega
    case rel => exact ⟨(Lh), (wrap64 (x4_1 + 1)), rs, H', ⟨by have := Jj.out; omega⟩, ⟨kr Cd.out⟩, ⟨bl⟩⟩
   obtain rfl := Option.some.inj H
   go_wp2
   go_ret
   exact ⟨_, er, kr Cd.out, bl⟩
def iG.f (a0_0 : ByteArray) (a0_1 : Int) (a0_2 : Int) (a0_3 : Int) : Option (ByteArray × Int × Int × Int) := some (a0_0, a0_1, a0_2, a0_3)
theorem iG.calls (a0_0 : ByteArray) (a0_1 : Int) (a0_2 : Int) (a0_3 : Int) (r1 : ByteArray) (r2 : Int) (r3 : Int) (r4 : Int) (w : World) (h : iG.f a0_0 a0_1 a0_2 a0_3 = some (r1, r2, r3, r4)) :
  Calls Tryz.prog 46 #[.agg #[.string a0_0, .int .i64 a0_1, .int .i64 a0_2, .int .i64 a0_3]] w fun e w' => e = .returned (.agg #[.string r1, .int .i64 r2, .int .i64 r3, .int .i64 r4]) ∧ Below w.heap.size w w' := by
 have hu78 := Tryz.underlying78
 have hu83 := Tryz.underlying83
 have HB := am (Below.refl w.heap.size w)
 have H := h
 clear h
 unfold iG.f at H
 simp only [Option.some.injEq, Prod.mk.injEq] at H
 obtain ⟨rfl, rfl, rfl, rfl⟩ := H
 go_enter Tryz.func46, Tryz.ntmps46
 go_wp2_with (first | ((with_reducible refine g_ 1 ?_); refine bx 1 #[.string a0_0, .int .i64 a0_1, .int .i64 a0_2, .int .i64 a0_3] 78 ?_; intro Ll hg w2 hbox hb; have Ea := am hbox; have Lm := am (bsz hg : w.heap.size ≤ Ll); have Qq := Lm; replace HB := ho hb; clear hb hbox hg) | ((with_reducible refine g_ 2 ?_); refine bx 2 #[.string (⟨#[]⟩ : ByteArray), .int .i64 0, .int .i64 0, .int .i64 0] 83 ?_; intro Jy hg w3 hbox hb; have Gg := am hbox; have Ln := am (bsz hg : w.heap.size ≤ Jy); have Qr := Ln; have Ep := no hg Ea; have Ip := am Ep.out.symm; replace Ea := bo Ea hb; replace HB := ho hb; clear hb hbox hg) | ((with_reducible refine g_ 3 ?_); refine bx 3 #[.string (⟨#[]⟩ : ByteArray), .int .i64 0, .int .i64 0, .int .i64 0] 83 ?_; intro Lp hg w4 hbox hb; have Lq := am hbox; have Lr := am (bsz hg : w.heap.size ≤ Lp); have Qs := Lr; have Es := no hg Ea; have Iq := am Es.out.symm; replace Ea := bo Ea hb; have Dq := no hg Gg; have Ir := am Dq.out.symm; replace Gg := bo Gg hb; replace HB := ho hb; clear hb hbox hg; have Ls := Ep.out; have Lu := Ip.out; have Ko := Es.out; have Kp := Iq.out; have Z7 := jw Ea.out; have Ly := Ir.out; have Ma := Dq.out; have Z9 := jw Lq.out; have Qt := jw Gg.out))
 refine bodyPost_ret (results_cell_row rfl _ _ Jy 83 #[.string a0_0, .int .i64 a0_1, .int .i64 a0_2, .int .i64 a0_3] (0, 0) _ rfl (bpf Gg.out Dq.out) Tryz.underlying83 rfl (by kernel_rfl)) rfl ?_
 exact ⟨er, bl⟩
def di.l0 : Nat → List (S78) → List (S83) → Int → Option ((List (S83)))
 | 0, _, _, _ => none
 | k + 1, x0, x3, x4 => if x4 < (x0.length : Int) then (if 0 ≤ x4 then ((iG.f ((iZ x0 x4).f0) ((iZ x0 x4).f1) ((iZ x0 x4).f2) ((iZ x0 x4).f3)).bind fun bt212 => (if x4 < (x3.length : Int) then (di.l0 k x0 (x3.set (x4 : Int).toNat (⟨bt212.1, bt212.2.1, bt212.2.2.1, bt212.2.2.2⟩ : S83)) (wrap64 (x4 + 1))) else (none))) else (none)) else (some x3)
def di.f (k : Nat) (l0 : List (S78)) : Option ((List (S83))) := if 0 ≤ (l0.length : Int) then (if ((l0.length : Int) : Int).toNat ≤ 7036874417766 then (di.l0 k l0 (List.replicate ((l0.length : Int) : Int).toNat z83) 0) else (none)) else (none)
theorem di.bI : ∀ k, (∀ y0 y1 y2, LeO (di.l0 k y0 y1 y2) (di.l0 (k + 1) y0 y1 y2))
 | 0 => fun _ _ _ r h => by simp [di.l0] at h
 | k + 1 => by
  have ih0 := di.bI k
  ·intro y0 y1 y2
   unfold di.l0
   exact mo
theorem di.mono : ∀ a0 k, LeO (di.f k a0) (di.f (k + 1) a0) := by
 intro a0 k
 have ih0 := di.bI k
 unfold di.f
 exact mo
theorem di.calls (k : Nat) (A0 : Option Addr) (c0 : Nat) (l0 : List (S78)) (r : List (S83)) (w : World) (hr0 : Kd.C k78 w A0 l0.length l0) (hc0 : l0.length ≤ c0) (h : di.f k l0 = some r) :
  Calls Tryz.prog 23 #[.slice A0 l0.length c0] w fun e w' => ∃ v0_ : Value, e = .returned (v0_) ∧ Kd.R k83 83 w' w.heap.size (fun _ => True) v0_ r ∧ Below w.heap.size w w' := by
 have hu78 := Tryz.underlying78
 have hu83 := Tryz.underlying83
 have Kj := am hr0
 have Po := am hc0
 clear hr0 hc0
 have HB := am (Below.refl w.heap.size w)
 have H := h
 clear h
 unfold di.f at H
 revert H; refine i2 fun Gq Gs H => ?_
 revert H; refine i2 fun Gu Gv H => ?_
 generalize h_ : ((List.replicate ((l0.length : Int) : Int).toNat z83) : List (S83)) = Pv at H
 have Jz := am h_.symm; clear h_; try rw [Option.bind_some] at H
 have H' := am H; clear H
 go_enter Tryz.func23, Tryz.ntmps23
 go_wp2_with (first | ((with_reducible refine dH (N := 7) rfl ?_); refine Kd.pI k83 _ 83 rfl (N := 7) rfl 36 _ _ rfl (l0.length : Int) rfl rfl Tryz.underlying36 (.agg #[(.string ⟨#[]⟩), (.int .i64 0), (.int .i64 0), (.int .i64 0)]) 40 info83 rfl (by decide) (by omega) z83 (ok := fun _ => True) (okp := fun _ => True) (lh _ _ _ z83 ) (fun _ hk => hk) trivial (ode) (Nat.le_trans (Nat.mul_le_mul_right _ (ode : (l0.length : Int).toNat ≤ 7036874417766)) (by omega)) (Below.refl _ _) (Nat.le_refl _) ?_; intro v209 w4 ho5 hb hg_ hnew_; clear hg_ hnew_; (first | rw [← Jz.out] at ho5 | (simp only [Int.reduceToNat] at ho5; rw [← Jz.out] at ho5)); have Mc := am (Kd.bz ho5 (az bl)); replace HB := ho hb; clear hb ho5))
 go_loopg [4] k (fun kq v4 w' => ∃ (x3_1 : List (S83)) (x4_1 : Int), v4 = .int .i64 x4_1 ∧ aa (di.l0 kq l0 x3_1 x4_1 = some r) ∧ aa (kq ≤ k) ∧ aa (Kd.R k83 83 w' w.heap.size (fun _ => True) v209 x3_1) ∧ aa (Below w.heap.size w w'))
 case atStart => exact ⟨(Pv), (0), rs, H', ⟨Nat.le_refl _⟩, ⟨kr Mc.out⟩, ⟨bl⟩⟩
 case round =>
  clear H'
  try clear Gq; try clear Gs; try clear Gu; try clear Gv
  obtain ⟨x3_1, x4_1, rfl, HA, Jj, Cd, HB⟩ := hrel
  cases gk with
  | zero => exact absurd HA.out (by simp [di.l0])
  | succ k1 =>
   have H := HA.out
   clear HA
   simp only [di.l0] at H
   revert H; refine iDb (fun Gw H => ?_) fun Gw H => ?_
   ·revert H; refine i1 fun Kk H => ?_
    replace H := bi H; obtain ⟨⟨t212, t213, t214, t215⟩, A8, H⟩ := H; dsimp only at H
    revert H; refine i1 fun Md H => ?_
    generalize h_ : ((x3_1.set (x4_1 : Int).toNat (⟨t212, t213, t214, t215⟩ : S83)) : List (S83)) = Me at H
    have Mj := am h_.symm; clear h_; try rw [Option.bind_some] at H
    have H' := am H; clear H
    have Kq : 0 ≤ (x4_1 : Int) := ode
    have Kr : x4_1 < (l0.length : Int) := ode
    obtain ⟨Qu, e211, Ia, Ib, Ic, Ie⟩ := rG Kj.out x4_1 Kq Kr
    cases e211
    obtain ⟨Ia, Ib, Ic, Ie⟩ := hb4 HB.out Ia Ib Ic Ie
    replace Kq := eq_true Kq
    replace Kr := eq_true Kr
    go_wp2_with (first | ((with_reducible refine c_ 46 ?_); refine gc 46 (some 20) Tryz.func46 (iG.calls _ _ _ _ _ _ _ _ _ A8.out) ?_; rintro e w11 ⟨rfl, hb⟩; refine ⟨_, rfl, ?_⟩; replace Cd := ro Cd hb; replace HB := ho hb; clear hb; have Jk : 0 ≤ (x4_1 : Int) := ode; have Jl : (x4_1 : Int) < ((x3_1.length : Int) : Int) := ode; obtain ⟨Cc, En, Eo, Gh, Jm, Mo, Gi⟩ := Kd.kH Cd.out (by omega); (first | cases Eo | (injection Eo with ea_ en_ ec_; (first | subst ea_ | (injection ea_ with ea_; subst ea_)); subst ec_; clear en_)); have Dn := aa.mk Gh; have Mp := aa.mk Gi; clear Gh Jm Gi; obtain ⟨Mq, Gj, hM10, Cn, Dc⟩ := Kd.fe Cd.out z83 (x4_1 : Int) Jk Jl; obtain rfl := il hM10; have Jn : w11.cell? ⟨Cc, (x4_1 : Int).toNat * 4, none⟩ = some (.string ((aX x3_1 x4_1).f0)) := Cn 0 _ rfl; have Jo : w11.cell? ⟨Cc, (x4_1 : Int).toNat * 4 + 1, none⟩ = some (.int .i64 ((aX x3_1 x4_1).f1)) := Cn 1 _ rfl; have Jp : w11.cell? ⟨Cc, (x4_1 : Int).toNat * 4 + 2, none⟩ = some (.int .i64 ((aX x3_1 x4_1).f2)) := Cn 2 _ rfl; have Ks : w11.cell? ⟨Cc, (x4_1 : Int).toNat * 4 + 3, none⟩ = some (.int .i64 ((aX x3_1 x4_1).f3)) := Cn 3 _ rfl; have Jq : w11.frozen? ⟨Cc, (x4_1 : Int).toNat * 4, none⟩ = false := Dc 0; have Jr : w11.frozen? ⟨Cc, (x4_1 : Int).toNat * 4 + 1, none⟩ = false := Dc 1; have Js : w11.frozen? ⟨Cc, (x4_1 : Int).toNat * 4 + 2, none⟩ = false := Dc 2; have Kt : w11.frozen? ⟨Cc, (x4_1 : Int).toNat * 4 + 3, none⟩ = false := Dc 3; clear Gj Cn Dc hM10; replace Jk := eq_true Jk; replace Jl := eq_true Jl; have Gk := am (show Kd.R k83 83 w11 w.heap.size (fun _ => True) (.slice (some ⟨Cc, 0, none⟩) x3_1.length En) x3_1 from (kr Cd.out)); obtain ⟨Mv, Dw, hM12, Cj, Df⟩ := Kd.fe Gk.out z83 (x4_1 : Int) (ode) (by have h_ : (x4_1 : Int) < ((x3_1.length : Int) : Int) := ode; first | exact h_ | (have e_ := (Kd.af Cd.out).1; omega) | simpa using h_); obtain rfl := il hM12; have Eb := Kd.jd Gk.out (x4_1 : Int) (ode) (by have h_ : (x4_1 : Int) < ((x3_1.length : Int) : Int) := ode; first | exact h_ | (have e_ := (Kd.af Cd.out).1; omega) | simpa using h_) (seg := [.string t212, .int .i64 t213, .int .i64 t214, .int .i64 t215]) (j := 0) Dw Cj (show 4 ≤ 4 from by decide) (x' := (⟨t212, t213, t214, t215⟩ : S83)) (lh _ _ _ (⟨t212, t213, t214, t215⟩ : S83) ) (fun _ hk => hk); have Ec := Cj 0 _ rfl; (try simp only [show (k83).sz = 4 from rfl, Nat.mul_one, Nat.add_zero] at Ec); have Ed := Df 0; (try simp only [show (k83).sz = 4 from rfl, Nat.mul_one, Nat.add_zero] at Ed); have Ee := Cj 1 _ rfl; (try simp only [show (k83).sz = 4 from rfl, Nat.mul_one, Nat.add_zero] at Ee); have Ef := Df 1; (try simp only [show (k83).sz = 4 from rfl, Nat.mul_one, Nat.add_zero] at Ef); have Eg := Cj 2 _ rfl; (try simp only [show (k83).sz = 4 from rfl, Nat.mul_one, Nat.add_zero] at Eg); have Eh := Df 2; (try simp only [show (k83).sz = 4 from rfl, Nat.mul_one, Nat.add_zero] at Eh); have Gx := Cj 3 _ rfl; (try simp only [show (k83).sz = 4 from rfl, Nat.mul_one, Nat.add_zero] at Gx); have Gy := Df 3; (try simp only [show (k83).sz = 4 from rfl, Nat.mul_one, Nat.add_zero] at Gy); clear Dw Cj Df hM12) | ((with_reducible refine eB (t := 83) (p := 21) rfl ?_); refine dV (t := 83) (p := 21) (v := ?vo_w13) (w1 := ((((w11.setCell ⟨Cc, (x4_1 : Int).toNat * 4, none⟩ (.string t212)).setCell ⟨Cc, (x4_1 : Int).toNat * 4 + 1, none⟩ (.int .i64 t213)).setCell ⟨Cc, (x4_1 : Int).toNat * 4 + 2, none⟩ (.int .i64 t214)).setCell ⟨Cc, (x4_1 : Int).toNat * 4 + 3, none⟩ (.int .i64 t215))) ?hg ?ho ?hn ?hr ?_; (case ho => rfl); (case hg => rfl); (case hn => rfl); (case hr => first | (go_simp; done) | (go_simp; rfl)); intro w13 hw; have hg : w11.grownBy w13 (some Cc) := (by rw [hw]; exact Eb.2); have hp_ : Kd.R k83 83 w13 w.heap.size (fun _ => True) (.slice (some ⟨Cc, 0, none⟩) x3_1.length En) Me := (by rw [hw, Mj.out]; exact Eb.1); clear Eb; replace Cd := am (hp_); replace HB := am ((by rw [hw]; exact bJ (bJ (bJ (bJ (HB.out) Dn.out) Dn.out) Dn.out) Dn.out : Below w.heap.size w w13)); clear hg hw hp_))
    go_roundg k1
    case measure => have := Jj.out; omega
    case rel => exact ⟨(Me), (wrap64 (x4_1 + 1)), rs, H', ⟨by have := Jj.out; omega⟩, ⟨kr Cd.out⟩, ⟨bl⟩⟩
   obtain rfl := Option.some.inj H
   go_wp2
   go_ret
   exact ⟨_, er, kr Cd.out, bl⟩
def iV.f (a0_0 : Int) (a0_1 : ByteArray) (a0_2 : ByteArray) (a0_3 : Int) (a0_4 : Int) : Option (Int × ByteArray × ByteArray × Int × Int) := some (a0_0, a0_1, a0_2, a0_3, a0_4)
theorem iV.calls (a0_0 : Int) (a0_1 : ByteArray) (a0_2 : ByteArray) (a0_3 : Int) (a0_4 : Int) (r1 : Int) (r2 : ByteArray) (r3 : ByteArray) (r4 : Int) (r5 : Int) (w : World) (h : iV.f a0_0 a0_1 a0_2 a0_3 a0_4 = some (r1, r2, r3, r4, r5)) :
  Calls Tryz.prog 47 #[.agg #[.int .i64 a0_0, .string a0_1, .string a0_2, .int .i64 a0_3, .int .i64 a0_4]] w fun e w' => e = .returned (.agg #[.int .i64 r1, .string r2, .string r3, .int .i64 r4, .int .i64 r5]) ∧ Below w.heap.size w w' := by
 have hu81 := Tryz.underlying81
 have hu88 := Tryz.underlying88
 have HB := am (Below.refl w.heap.size w)
 have H := h
 clear h
 unfold iV.f at H
 simp only [Option.some.injEq, Prod.mk.injEq] at H
 obtain ⟨rfl, rfl, rfl, rfl, rfl⟩ := H
 go_enter Tryz.func47, Tryz.ntmps47
 go_wp2_with (first | ((with_reducible refine g_ 1 ?_); refine bx 1 #[.int .i64 a0_0, .string a0_1, .string a0_2, .int .i64 a0_3, .int .i64 a0_4] 81 ?_; intro My hg w2 hbox hb; have Ei := am hbox; have Na := am (bsz hg : w.heap.size ≤ My); have Qv := Na; replace HB := ho hb; clear hb hbox hg) | ((with_reducible refine g_ 2 ?_); refine bx 2 #[.int .i64 0, .string (⟨#[]⟩ : ByteArray), .string (⟨#[]⟩ : ByteArray), .int .i64 0, .int .i64 0] 88 ?_; intro Ka hg w3 hbox hb; have Gl := am hbox; have Nb := am (bsz hg : w.heap.size ≤ Ka); have Qw := Nb; have Et := no hg Ei; have Iu := am Et.out.symm; replace Ei := bo Ei hb; replace HB := ho hb; clear hb hbox hg) | ((with_reducible refine g_ 3 ?_); refine bx 3 #[.int .i64 0, .string (⟨#[]⟩ : ByteArray), .string (⟨#[]⟩ : ByteArray), .int .i64 0, .int .i64 0] 88 ?_; intro Nc hg w4 hbox hb; have Nh := am hbox; have Nl := am (bsz hg : w.heap.size ≤ Nc); have Qx := Nl; have Eu := no hg Ei; have Iw := am Eu.out.symm; replace Ei := bo Ei hb; have Dt := no hg Gl; have Ix := am Dt.out.symm; replace Gl := bo Gl hb; replace HB := ho hb; clear hb hbox hg; have Ls := Et.out; have Lu := Iu.out; have Ko := Eu.out; have Kp := Iw.out; have Z7 := dG Ei.out; have Ly := Ix.out; have Ma := Dt.out; have Z9 := dG Nh.out; have Qt := dG Gl.out))
 refine bodyPost_ret (results_cell_row rfl _ _ Ka 88 #[.int .i64 a0_0, .string a0_1, .string a0_2, .int .i64 a0_3, .int .i64 a0_4] (0, 0) _ rfl (bpf Gl.out Dt.out) Tryz.underlying88 rfl (by kernel_rfl)) rfl ?_
 exact ⟨er, bl⟩
def cO.l0 : Nat → List (S81) → List (S88) → Int → Option ((List (S88)))
 | 0, _, _, _ => none
 | k + 1, x0, x3, x4 => if x4 < (x0.length : Int) then (if 0 ≤ x4 then ((iV.f ((iA x0 x4).f0) ((iA x0 x4).f1) ((iA x0 x4).f2) ((iA x0 x4).f3) ((iA x0 x4).f4)).bind fun bt224 => (if x4 < (x3.length : Int) then (cO.l0 k x0 (x3.set (x4 : Int).toNat (⟨bt224.1, bt224.2.1, bt224.2.2.1, bt224.2.2.2.1, bt224.2.2.2.2⟩ : S88)) (wrap64 (x4 + 1))) else (none))) else (none)) else (some x3)
def cO.f (k : Nat) (l0 : List (S81)) : Option ((List (S88))) := if 0 ≤ (l0.length : Int) then (if ((l0.length : Int) : Int).toNat ≤ 5026338869833 then (cO.l0 k l0 (List.replicate ((l0.length : Int) : Int).toNat z88) 0) else (none)) else (none)
theorem cO.bI : ∀ k, (∀ y0 y1 y2, LeO (cO.l0 k y0 y1 y2) (cO.l0 (k + 1) y0 y1 y2))
 | 0 => fun _ _ _ r h => by simp [cO.l0] at h
 | k + 1 => by
  have ih0 := cO.bI k
  ·intro y0 y1 y2
   unfold cO.l0
   exact mo
theorem cO.mono : ∀ a0 k, LeO (cO.f k a0) (cO.f (k + 1) a0) := by
 intro a0 k
 have ih0 := cO.bI k
 unfold cO.f
 exact mo
theorem cO.calls (k : Nat) (A0 : Option Addr) (c0 : Nat) (l0 : List (S81)) (r : List (S88)) (w : World) (hr0 : Kd.C k81 w A0 l0.length l0) (hc0 : l0.length ≤ c0) (h : cO.f k l0 = some r) :
  Calls Tryz.prog 24 #[.slice A0 l0.length c0] w fun e w' => ∃ v0_ : Value, e = .returned (v0_) ∧ Kd.R k88 88 w' w.heap.size (fun _ => True) v0_ r ∧ Below w.heap.size w w' := by
 have hu81 := Tryz.underlying81
 have hu88 := Tryz.underlying88
 have Kj := am hr0
 have Po := am hc0
 clear hr0 hc0
 have HB := am (Below.refl w.heap.size w)
 have H := h
 clear h
 unfold cO.f at H
 revert H; refine i2 fun Gq Gs H => ?_
 revert H; refine i2 fun Gu Gv H => ?_
 generalize h_ : ((List.replicate ((l0.length : Int) : Int).toNat z88) : List (S88)) = Px at H
 have Kb := am h_.symm; clear h_; try rw [Option.bind_some] at H
 have H' := am H; clear H
 go_enter Tryz.func24, Tryz.ntmps24
 go_wp2_with (first | ((with_reducible refine dH (N := 7) rfl ?_); refine Kd.pI k88 _ 88 rfl (N := 7) rfl 37 _ _ rfl (l0.length : Int) rfl rfl Tryz.underlying37 (.agg #[(.int .i64 0), (.string ⟨#[]⟩), (.string ⟨#[]⟩), (.int .i64 0), (.int .i64 0)]) 56 info88 rfl (by decide) (by omega) z88 (ok := fun _ => True) (okp := fun _ => True) (jT _ _ _ z88 ) (fun _ hk => hk) trivial (ode) (Nat.le_trans (Nat.mul_le_mul_right _ (ode : (l0.length : Int).toNat ≤ 5026338869833)) (by omega)) (Below.refl _ _) (Nat.le_refl _) ?_; intro v221 w4 ho5 hb hg_ hnew_; clear hg_ hnew_; (first | rw [← Kb.out] at ho5 | (simp only [Int.reduceToNat] at ho5; rw [← Kb.out] at ho5)); have Np := am (Kd.bz ho5 (az bl)); replace HB := ho hb; clear hb ho5))
 go_loopg [4] k (fun kq v4 w' => ∃ (x3_1 : List (S88)) (x4_1 : Int), v4 = .int .i64 x4_1 ∧ aa (cO.l0 kq l0 x3_1 x4_1 = some r) ∧ aa (kq ≤ k) ∧ aa (Kd.R k88 88 w' w.heap.size (fun _ => True) v221 x3_1) ∧ aa (Below w.heap.size w w'))
 case atStart => exact ⟨(Px), (0), rs, H', ⟨Nat.le_refl _⟩, ⟨kr Np.out⟩, ⟨bl⟩⟩
 case round =>
  clear H'
  try clear Gq; try clear Gs; try clear Gu; try clear Gv
  obtain ⟨x3_1, x4_1, rfl, HA, Jj, Cd, HB⟩ := hrel
  cases gk with
  | zero => exact absurd HA.out (by simp [cO.l0])
  | succ k1 =>
   have H := HA.out
   clear HA
   simp only [cO.l0] at H
   revert H; refine iDb (fun Gw H => ?_) fun Gw H => ?_
   ·revert H; refine i1 fun Kk H => ?_
    replace H := bi H; obtain ⟨⟨t224, t225, t226, t227, t228⟩, A8, H⟩ := H; dsimp only at H
    revert H; refine i1 fun Md H => ?_
    generalize h_ : ((x3_1.set (x4_1 : Int).toNat (⟨t224, t225, t226, t227, t228⟩ : S88)) : List (S88)) = Nr at H
    have Ns := am h_.symm; clear h_; try rw [Option.bind_some] at H
    have H' := am H; clear H
    have Ku : 0 ≤ (x4_1 : Int) := ode
    have Kv : x4_1 < (l0.length : Int) := ode
    obtain ⟨Qy, e223, Ig, Ih, Ii, Ij, Ik⟩ := rF Kj.out x4_1 Ku Kv
    cases e223
    obtain ⟨Ig, Ih, Ii, Ij, Ik⟩ := hb5 HB.out Ig Ih Ii Ij Ik
    replace Ku := eq_true Ku
    replace Kv := eq_true Kv
    go_wp2_with (first | ((with_reducible refine c_ 47 ?_); refine gc 47 (some 20) Tryz.func47 (iV.calls _ _ _ _ _ _ _ _ _ _ _ A8.out) ?_; rintro e w11 ⟨rfl, hb⟩; refine ⟨_, rfl, ?_⟩; replace Cd := ro Cd hb; replace HB := ho hb; clear hb; have Jk : 0 ≤ (x4_1 : Int) := ode; have Jl : (x4_1 : Int) < ((x3_1.length : Int) : Int) := ode; obtain ⟨Cc, En, Eo, Gh, Jm, Mo, Gi⟩ := Kd.kH Cd.out (by omega); (first | cases Eo | (injection Eo with ea_ en_ ec_; (first | subst ea_ | (injection ea_ with ea_; subst ea_)); subst ec_; clear en_)); have Dn := aa.mk Gh; have Mp := aa.mk Gi; clear Gh Jm Gi; obtain ⟨Mq, Gj, hM10, Cn, Dc⟩ := Kd.fe Cd.out z88 (x4_1 : Int) Jk Jl; obtain rfl := gz hM10; have Jn : w11.cell? ⟨Cc, (x4_1 : Int).toNat * 5, none⟩ = some (.int .i64 ((av x3_1 x4_1).f0)) := Cn 0 _ rfl; have Jo : w11.cell? ⟨Cc, (x4_1 : Int).toNat * 5 + 1, none⟩ = some (.string ((av x3_1 x4_1).f1)) := Cn 1 _ rfl; have Jp : w11.cell? ⟨Cc, (x4_1 : Int).toNat * 5 + 2, none⟩ = some (.string ((av x3_1 x4_1).f2)) := Cn 2 _ rfl; have Ks : w11.cell? ⟨Cc, (x4_1 : Int).toNat * 5 + 3, none⟩ = some (.int .i64 ((av x3_1 x4_1).f3)) := Cn 3 _ rfl; have Py : w11.cell? ⟨Cc, (x4_1 : Int).toNat * 5 + 4, none⟩ = some (.int .i64 ((av x3_1 x4_1).f4)) := Cn 4 _ rfl; have Jq : w11.frozen? ⟨Cc, (x4_1 : Int).toNat * 5, none⟩ = false := Dc 0; have Jr : w11.frozen? ⟨Cc, (x4_1 : Int).toNat * 5 + 1, none⟩ = false := Dc 1; have Js : w11.frozen? ⟨Cc, (x4_1 : Int).toNat * 5 + 2, none⟩ = false := Dc 2; have Kt : w11.frozen? ⟨Cc, (x4_1 : Int).toNat * 5 + 3, none⟩ = false := Dc 3; have Pz : w11.frozen? ⟨Cc, (x4_1 : Int).toNat * 5 + 4, none⟩ = false := Dc 4; clear Gj Cn Dc hM10; replace Jk := eq_true Jk; replace Jl := eq_true Jl; have Gk := am (show Kd.R k88 88 w11 w.heap.size (fun _ => True) (.slice (some ⟨Cc, 0, none⟩) x3_1.length En) x3_1 from (kr Cd.out)); obtain ⟨Mv, Dw, hM12, Cj, Df⟩ := Kd.fe Gk.out z88 (x4_1 : Int) (ode) (by have h_ : (x4_1 : Int) < ((x3_1.length : Int) : Int) := ode; first | exact h_ | (have e_ := (Kd.af Cd.out).1; omega) | simpa using h_); obtain rfl := gz hM12; have Eb := Kd.jd Gk.out (x4_1 : Int) (ode) (by have h_ : (x4_1 : Int) < ((x3_1.length : Int) : Int) := ode; first | exact h_ | (have e_ := (Kd.af Cd.out).1; omega) | simpa using h_) (seg := [.int .i64 t224, .string t225, .string t226, .int .i64 t227, .int .i64 t228]) (j := 0) Dw Cj (show 5 ≤ 5 from by decide) (x' := (⟨t224, t225, t226, t227, t228⟩ : S88)) (jT _ _ _ (⟨t224, t225, t226, t227, t228⟩ : S88) ) (fun _ hk => hk); have Ec := Cj 0 _ rfl; (try simp only [show (k88).sz = 5 from rfl, Nat.mul_one, Nat.add_zero] at Ec); have Ed := Df 0; (try simp only [show (k88).sz = 5 from rfl, Nat.mul_one, Nat.add_zero] at Ed); have Ee := Cj 1 _ rfl; (try simp only [show (k88).sz = 5 from rfl, Nat.mul_one, Nat.add_zero] at Ee); have Ef := Df 1; (try simp only [show (k88).sz = 5 from rfl, Nat.mul_one, Nat.add_zero] at Ef); have Eg := Cj 2 _ rfl; (try simp only [show (k88).sz = 5 from rfl, Nat.mul_one, Nat.add_zero] at Eg); have Eh := Df 2; (try simp only [show (k88).sz = 5 from rfl, Nat.mul_one, Nat.add_zero] at Eh); have Gx := Cj 3 _ rfl; (try simp only [show (k88).sz = 5 from rfl, Nat.mul_one, Nat.add_zero] at Gx); have Gy := Df 3; (try simp only [show (k88).sz = 5 from rfl, Nat.mul_one, Nat.add_zero] at Gy); have Kw := Cj 4 _ rfl; (try simp only [show (k88).sz = 5 from rfl, Nat.mul_one, Nat.add_zero] at Kw); have Kx := Df 4; (try simp only [show (k88).sz = 5 from rfl, Nat.mul_one, Nat.add_zero] at Kx); clear Dw Cj Df hM12) | ((with_reducible refine eB (t := 88) (p := 21) rfl ?_); refine dV (t := 88) (p := 21) (v := ?vo_w13) (w1 := (((((w11.setCell ⟨Cc, (x4_1 : Int).toNat * 5, none⟩ (.int .i64 t224)).setCell ⟨Cc, (x4_1 : Int).toNat * 5 + 1, none⟩ (.string t225)).setCell ⟨Cc, (x4_1 : Int).toNat * 5 + 2, none⟩ (.string t226)).setCell ⟨Cc, (x4_1 : Int).toNat * 5 + 3, none⟩ (.int .i64 t227)).setCell ⟨Cc, (x4_1 : Int).toNat * 5 + 4, none⟩ (.int .i64 t228))) ?hg ?ho ?hn ?hr ?_; (case ho => rfl); (case hg => rfl); (case hn => rfl); (case hr => first | (go_simp; done) | (go_simp; rfl)); intro w13 hw; have hg : w11.grownBy w13 (some Cc) := (by rw [hw]; exact Eb.2); have hp_ : Kd.R k88 88 w13 w.heap.size (fun _ => True) (.slice (some ⟨Cc, 0, none⟩) x3_1.length En) Nr := (by rw [hw, Ns.out]; exact Eb.1); clear Eb; replace Cd := am (hp_); replace HB := am ((by rw [hw]; exact bJ (bJ (bJ (bJ (bJ (HB.out) Dn.out) Dn.out) Dn.out) Dn.out) Dn.out : Below w.heap.size w w13)); clear hg hw hp_))
    go_roundg k1
    case measure => have := Jj.out; omega
    case rel => exact ⟨(Nr), (wrap64 (x4_1 + 1)), rs, H', ⟨by have := Jj.out; omega⟩, ⟨kr Cd.out⟩, ⟨bl⟩⟩
   obtain rfl := Option.some.inj H
   go_wp2
   go_ret
   exact ⟨_, er, kr Cd.out, bl⟩
def dE.f (k : Nat) (a0_0 : ByteArray) (a0_1 : Int) (l0_2 : List ByteArray) (l0_3 : List ByteArray) (l0_4 : List (S78)) (l0_5 : List (S81)) (l0_6 : List (S81)) (l0_7 : List (S81)) : Option (ByteArray × Int × List ByteArray × List ByteArray × (List (S83)) × (List (S88)) × (List (S88)) × (List (S88))) := (bV.f k l0_2).bind fun t233 => ((bV.f k l0_3).bind fun t236 => ((di.f k l0_4).bind fun t239 => ((cO.f k l0_5).bind fun t242 => ((cO.f k l0_6).bind fun t245 => ((cO.f k l0_7).bind fun t248 => (some (a0_0, a0_1, t233, t236, t239, t242, t245, t248)))))))
theorem dE.mono : ∀ a0 a1 a2 a3 a4 a5 a6 a7 k, LeO (dE.f k a0 a1 a2 a3 a4 a5 a6 a7) (dE.f (k + 1) a0 a1 a2 a3 a4 a5 a6 a7) := by
 intro a0 a1 a2 a3 a4 a5 a6 a7 k
 unfold dE.f
 repeat' (with_reducible first | exact cO.mono .. | exact di.mono .. | exact bV.mono .. | exact LeO.refl _ | exact LeO.none _ | refine LeO.ite ?_ ?_ | refine LeO.bind ?_ (fun _ => ?_))
theorem dE.calls (k : Nat) (a0_0 : ByteArray) (a0_1 : Int) (A0_2 : Option Addr) (c0_2 : Nat) (l0_2 : List ByteArray) (A0_3 : Option Addr) (c0_3 : Nat) (l0_3 : List ByteArray) (A0_4 : Option Addr) (c0_4 : Nat) (l0_4 : List (S78)) (A0_5 : Option Addr) (c0_5 : Nat) (l0_5 : List (S81)) (A0_6 : Option Addr) (c0_6 : Nat) (l0_6 : List (S81)) (A0_7 : Option Addr) (c0_7 : Nat) (l0_7 : List (S81)) (r1 : ByteArray) (r2 : Int) (r3 : List ByteArray) (r4 : List ByteArray) (r5 : List (S83)) (r6 : List (S88)) (r7 : List (S88)) (r8 : List (S88)) (w : World) (hr0_2 : Kd.C Kd.string w A0_2 l0_2.length l0_2) (hc0_2 : l0_2.length ≤ c0_2) (hr0_3 : Kd.C Kd.string w A0_3 l0_3.length l0_3) (hc0_3 : l0_3.length ≤ c0_3) (hr0_4 : Kd.C k78 w A0_4 l0_4.length l0_4) (hc0_4 : l0_4.length ≤ c0_4) (hr0_5 : Kd.C k81 w A0_5 l0_5.length l0_5) (hc0_5 : l0_5.length ≤ c0_5) (hr0_6 : Kd.C k81 w A0_6 l0_6.length l0_6) (hc0_6 : l0_6.length ≤ c0_6) (hr0_7 : Kd.C k81 w A0_7 l0_7.length l0_7) (hc0_7 : l0_7.length ≤ c0_7) (h : dE.f k a0_0 a0_1 l0_2 l0_3 l0_4 l0_5 l0_6 l0_7 = some (r1, r2, r3, r4, r5, r6, r7, r8)) :
  Calls Tryz.prog 7 #[.agg #[.string a0_0, .int .i64 a0_1, .slice A0_2 l0_2.length c0_2, .slice A0_3 l0_3.length c0_3, .slice A0_4 l0_4.length c0_4, .slice A0_5 l0_5.length c0_5, .slice A0_6 l0_6.length c0_6, .slice A0_7 l0_7.length c0_7]] w fun e w' => ∃ v2_ v3_ v4_ v5_ v6_ v7_ : Value, e = .returned (.agg #[.string r1, .int .i64 r2, v2_, v3_, v4_, v5_, v6_, v7_]) ∧ Kd.R Kd.string 9 w' w.heap.size (fun k_ => some k_ ≠ (v3_ : Value).ownBlock) v2_ r3 ∧ Kd.R Kd.string 9 w' w.heap.size (fun k_ => some k_ ≠ (v2_ : Value).ownBlock) v3_ r4 ∧ Kd.R k83 83 w' w.heap.size (fun _ => True) v4_ r5 ∧ Kd.R k88 88 w' w.heap.size (fun k_ => some k_ ≠ (v6_ : Value).ownBlock ∧ some k_ ≠ (v7_ : Value).ownBlock) v5_ r6 ∧ Kd.R k88 88 w' w.heap.size (fun k_ => some k_ ≠ (v5_ : Value).ownBlock ∧ some k_ ≠ (v7_ : Value).ownBlock) v6_ r7 ∧ Kd.R k88 88 w' w.heap.size (fun k_ => some k_ ≠ (v5_ : Value).ownBlock ∧ some k_ ≠ (v6_ : Value).ownBlock) v7_ r8 ∧ Below w.heap.size w w' := by
 have hu26 := Tryz.underlying26
 have hu39 := Tryz.underlying39
 have Nu := am hr0_2
 have Nv := am hc0_2
 clear hr0_2 hc0_2
 have Nw := am hr0_3
 have Nx := am hc0_3
 clear hr0_3 hc0_3
 have Ny := am hr0_4
 have Nz := am hc0_4
 clear hr0_4 hc0_4
 have Oa := am hr0_5
 have Ob := am hc0_5
 clear hr0_5 hc0_5
 have Oc := am hr0_6
 have Od := am hc0_6
 clear hr0_6 hc0_6
 have Oe := am hr0_7
 have Og := am hc0_7
 clear hr0_7 hc0_7
 have HB := am (Below.refl w.heap.size w)
 have H := h
 clear h
 unfold dE.f at H
 revert H; refine bj fun t233 A2 H => ?_
 revert H; refine bj fun t236 A3 H => ?_
 revert H; refine bj fun t239 A4 H => ?_
 revert H; refine bj fun t242 A5 H => ?_
 revert H; refine bj fun t245 A6 H => ?_
 revert H; refine bj fun t248 A7 H => ?_
 simp only [Option.some.injEq, Prod.mk.injEq] at H
 obtain ⟨rfl, rfl, rfl, rfl, rfl, rfl, rfl, rfl⟩ := H
 go_enter Tryz.func7, Tryz.ntmps7
 go_wp2_with (first | ((with_reducible refine g_ 1 ?_); refine bx 1 #[.string a0_0, .int .i64 a0_1, .slice A0_2 l0_2.length c0_2, .slice A0_3 l0_3.length c0_3, .slice A0_4 l0_4.length c0_4, .slice A0_5 l0_5.length c0_5, .slice A0_6 l0_6.length c0_6, .slice A0_7 l0_7.length c0_7] 26 ?_; intro Ej hg w8 hbox hb; have Ce := am hbox; have Oh := am (bsz hg : w.heap.size ≤ Ej); have Qz := Oh; replace HB := ho hb; clear hb hbox hg) | ((with_reducible refine g_ 2 ?_); refine bx 2 #[.string (⟨#[]⟩ : ByteArray), .int .i64 0, .slice none 0 0, .slice none 0 0, .slice none 0 0, .slice none 0 0, .slice none 0 0, .slice none 0 0] 39 ?_; intro Dx hg w9 hbox hb; have Cf := am hbox; have Oi := am (bsz hg : w.heap.size ≤ Dx); have Rb := Oi; have Ew := no hg Ce; have Iy := am Ew.out.symm; replace Ce := bo Ce hb; replace HB := ho hb; clear hb hbox hg) | ((with_reducible refine g_ 3 ?_); refine bx 3 #[.string (⟨#[]⟩ : ByteArray), .int .i64 0, .slice none 0 0, .slice none 0 0, .slice none 0 0, .slice none 0 0, .slice none 0 0, .slice none 0 0] 39 ?_; intro Ek hg w10 hbox hb; have Cb := am hbox; have Oj := am (bsz hg : w.heap.size ≤ Ek); have Re := Oj; have Cm := no hg Ce; have Iz := am Cm.out.symm; replace Ce := bo Ce hb; have Ci := no hg Cf; have Ja := am Ci.out.symm; replace Cf := bo Cf hb; replace HB := ho hb; clear hb hbox hg; have Ol := Ew.out; have Om := Iy.out; have Rf := Cm.out; have Rh := Iz.out; have Rz := dD Ce.out; have Ri := Ja.out; have Rj := Ci.out; have Sm := dD Cb.out) | ((with_reducible refine c_ 22 ?_); refine gc 22 (some 12) Tryz.func22 (bV.calls _ _ _ _ _ _ ?Dh ?Di A2.out) ?_; (case Dh => exact Kd.dK Nu.out bl); (case Di => exact Nv.out); rintro e w16 ⟨v234, rfl, ho0, hb⟩; refine ⟨_, rfl, ?_⟩; have Dj := am (Kd.bz ho0 (az bl)); replace Ce := am (bQ (g := Ej) (o := .cells #[.string a0_0, .int .i64 a0_1, .slice A0_2 l0_2.length c0_2, .slice A0_3 l0_3.length c0_3, .slice A0_4 l0_4.length c0_4, .slice A0_5 l0_5.length c0_5, .slice A0_6 l0_6.length c0_6, .slice A0_7 l0_7.length c0_7] 26 (0, 0)) (bf Ce.out Cm.out) hb); replace Cf := am (bQ (g := Dx) (o := .cells #[.string (⟨#[]⟩ : ByteArray), .int .i64 0, .slice none 0 0, .slice none 0 0, .slice none 0 0, .slice none 0 0, .slice none 0 0, .slice none 0 0] 39 (0, 0)) (bf Cf.out Ci.out) hb); replace Cb := am (bQ (g := Ek) (o := .cells #[.string a0_0, .int .i64 a0_1, .slice none 0 0, .slice none 0 0, .slice none 0 0, .slice none 0 0, .slice none 0 0, .slice none 0 0] 39 (0, 0)) (bp Cb.out) hb); replace HB := ho hb; clear hb ho0; obtain ⟨Jb, Jc, Qa⟩ := Kd.aI Dj.out; subst Qa; have Sp := dD Cb.out; have Sr := dD Ce.out) | ((with_reducible refine c_ 22 ?_); refine gc 22 (some 16) Tryz.func22 (bV.calls _ _ _ _ _ _ ?Dh ?Di A3.out) ?_; (case Dh => exact Kd.dK Nw.out bl); (case Di => exact Nx.out); rintro e w20 ⟨v237, rfl, ho0, hb⟩; refine ⟨_, rfl, ?_⟩; have Dl := am (Kd.bz (Kd.bW ho0 (Kd.ek (by exact (Kd.ax (eU (Kd.aG Dj.out Cb.out (by decide))) (fun _ h_ => h_.1))))) (az bl)); replace Dj := am (Kd.eY (by exact (Kd.ax (eU (Kd.aG Dj.out Cb.out (by decide))) (fun _ h_ => h_.1))) (Kd.bO ho0) hb); replace Ce := am (bQ (g := Ej) (o := .cells #[.string a0_0, .int .i64 a0_1, .slice A0_2 l0_2.length c0_2, .slice A0_3 l0_3.length c0_3, .slice A0_4 l0_4.length c0_4, .slice A0_5 l0_5.length c0_5, .slice A0_6 l0_6.length c0_6, .slice A0_7 l0_7.length c0_7] 26 (0, 0)) (bf Ce.out Cm.out) hb); replace Cf := am (bQ (g := Dx) (o := .cells #[.string (⟨#[]⟩ : ByteArray), .int .i64 0, .slice none 0 0, .slice none 0 0, .slice none 0 0, .slice none 0 0, .slice none 0 0, .slice none 0 0] 39 (0, 0)) (bf Cf.out Ci.out) hb); replace Cb := am (bQ (g := Ek) (o := .cells #[.string a0_0, .int .i64 a0_1, .slice Jb t233.length Jc, .slice none 0 0, .slice none 0 0, .slice none 0 0, .slice none 0 0, .slice none 0 0] 39 (0, 0)) (bp Cb.out) hb); replace HB := ho hb; clear hb ho0; obtain ⟨Jt, Ju, Qb⟩ := Kd.aI Dl.out; subst Qb; have Ss := dD Cb.out; have Su := dD Ce.out) | ((with_reducible refine c_ 23 ?_); refine gc 23 (some 20) Tryz.func23 (di.calls _ _ _ _ _ _ ?Dh ?Di A4.out) ?_; (case Dh => exact Kd.dK Ny.out bl); (case Di => exact Nz.out); rintro e w24 ⟨v240, rfl, ho0, hb⟩; refine ⟨_, rfl, ?_⟩; replace Dj := rt Dj Cb hb; replace Dl := rt Dl Cb hb; have Dy := am (Kd.bz ho0 (az bl)); replace Ce := am (bQ (g := Ej) (o := .cells #[.string a0_0, .int .i64 a0_1, .slice A0_2 l0_2.length c0_2, .slice A0_3 l0_3.length c0_3, .slice A0_4 l0_4.length c0_4, .slice A0_5 l0_5.length c0_5, .slice A0_6 l0_6.length c0_6, .slice A0_7 l0_7.length c0_7] 26 (0, 0)) (bf Ce.out Cm.out) hb); replace Cf := am (bQ (g := Dx) (o := .cells #[.string (⟨#[]⟩ : ByteArray), .int .i64 0, .slice none 0 0, .slice none 0 0, .slice none 0 0, .slice none 0 0, .slice none 0 0, .slice none 0 0] 39 (0, 0)) (bf Cf.out Ci.out) hb); replace Cb := am (bQ (g := Ek) (o := .cells #[.string a0_0, .int .i64 a0_1, .slice Jb t233.length Jc, .slice Jt t236.length Ju, .slice none 0 0, .slice none 0 0, .slice none 0 0, .slice none 0 0] 39 (0, 0)) (bp Cb.out) hb); replace HB := ho hb; clear hb ho0; obtain ⟨Jv, Jw, Qc⟩ := Kd.aI Dy.out; subst Qc; have Sv := dD Cb.out; have Sz := dD Ce.out) | ((with_reducible refine c_ 24 ?_); refine gc 24 (some 24) Tryz.func24 (cO.calls _ _ _ _ _ _ ?Dh ?Di A5.out) ?_; (case Dh => exact Kd.dK Oa.out bl); (case Di => exact Ob.out); rintro e w28 ⟨v243, rfl, ho0, hb⟩; refine ⟨_, rfl, ?_⟩; replace Dj := rt Dj Cb hb; replace Dl := rt Dl Cb hb; replace Dy := rt Dy Cb hb; have Dz := am (Kd.bz ho0 (az bl)); replace Ce := am (bQ (g := Ej) (o := .cells #[.string a0_0, .int .i64 a0_1, .slice A0_2 l0_2.length c0_2, .slice A0_3 l0_3.length c0_3, .slice A0_4 l0_4.length c0_4, .slice A0_5 l0_5.length c0_5, .slice A0_6 l0_6.length c0_6, .slice A0_7 l0_7.length c0_7] 26 (0, 0)) (bf Ce.out Cm.out) hb); replace Cf := am (bQ (g := Dx) (o := .cells #[.string (⟨#[]⟩ : ByteArray), .int .i64 0, .slice none 0 0, .slice none 0 0, .slice none 0 0, .slice none 0 0, .slice none 0 0, .slice none 0 0] 39 (0, 0)) (bf Cf.out Ci.out) hb); replace Cb := am (bQ (g := Ek) (o := .cells #[.string a0_0, .int .i64 a0_1, .slice Jb t233.length Jc, .slice Jt t236.length Ju, .slice Jv t239.length Jw, .slice none 0 0, .slice none 0 0, .slice none 0 0] 39 (0, 0)) (bp Cb.out) hb); replace HB := ho hb; clear hb ho0; obtain ⟨Ky, Kz, Qd⟩ := Kd.aI Dz.out; subst Qd; have Ta := dD Cb.out; have Tc := dD Ce.out) | ((with_reducible refine c_ 24 ?_); refine gc 24 (some 28) Tryz.func24 (cO.calls _ _ _ _ _ _ ?Dh ?Di A6.out) ?_; (case Dh => exact Kd.dK Oc.out bl); (case Di => exact Od.out); rintro e w32 ⟨v246, rfl, ho0, hb⟩; refine ⟨_, rfl, ?_⟩; replace Dj := rt Dj Cb hb; replace Dl := rt Dl Cb hb; replace Dy := rt Dy Cb hb; have Gm := am (Kd.bz (Kd.bW ho0 (Kd.ek (by exact (Kd.ax (eU (Kd.aG Dz.out Cb.out (by decide))) (fun _ h_ => h_.1))))) (az bl)); replace Dz := am (Kd.eY (by exact (Kd.ax (eU (Kd.aG Dz.out Cb.out (by decide))) (fun _ h_ => h_.1))) (Kd.bO ho0) hb); replace Ce := am (bQ (g := Ej) (o := .cells #[.string a0_0, .int .i64 a0_1, .slice A0_2 l0_2.length c0_2, .slice A0_3 l0_3.length c0_3, .slice A0_4 l0_4.length c0_4, .slice A0_5 l0_5.length c0_5, .slice A0_6 l0_6.length c0_6, .slice A0_7 l0_7.length c0_7] 26 (0, 0)) (bf Ce.out Cm.out) hb); replace Cf := am (bQ (g := Dx) (o := .cells #[.string (⟨#[]⟩ : ByteArray), .int .i64 0, .slice none 0 0, .slice none 0 0, .slice none 0 0, .slice none 0 0, .slice none 0 0, .slice none 0 0] 39 (0, 0)) (bf Cf.out Ci.out) hb); replace Cb := am (bQ (g := Ek) (o := .cells #[.string a0_0, .int .i64 a0_1, .slice Jb t233.length Jc, .slice Jt t236.length Ju, .slice Jv t239.length Jw, .slice Ky t242.length Kz, .slice none 0 0, .slice none 0 0] 39 (0, 0)) (bp Cb.out) hb); replace HB := ho hb; clear hb ho0; obtain ⟨Oo, Oq, Qe⟩ := Kd.aI Gm.out; subst Qe; have Td := dD Cb.out; have Tf := dD Ce.out) | ((with_reducible refine c_ 24 ?_); refine gc 24 (some 32) Tryz.func24 (cO.calls _ _ _ _ _ _ ?Dh ?Di A7.out) ?_; (case Dh => exact Kd.dK Oe.out bl); (case Di => exact Og.out); rintro e w36 ⟨v249, rfl, ho0, hb⟩; refine ⟨_, rfl, ?_⟩; replace Dj := rt Dj Cb hb; replace Dl := rt Dl Cb hb; replace Dy := rt Dy Cb hb; have Ke := am (Kd.bz (Kd.bW (Kd.bW ho0 (Kd.ek (by exact (Kd.ax (eU (Kd.aG Dz.out Cb.out (by decide))) (fun _ h_ => h_.1))))) (Kd.ek (by exact (Kd.ax (eU (Kd.aG Gm.out Cb.out (by decide))) (fun _ h_ => h_.1))))) (az bl)); replace Dz := am (Kd.eY (by exact (Kd.ax (eU (Kd.aG Dz.out Cb.out (by decide))) (fun _ h_ => h_.1))) (Kd.bO ho0) hb); replace Gm := am (Kd.eY (by exact (Kd.ax (eU (Kd.aG Gm.out Cb.out (by decide))) (fun _ h_ => h_.1))) (Kd.bO ho0) hb); replace Ce := am (bQ (g := Ej) (o := .cells #[.string a0_0, .int .i64 a0_1, .slice A0_2 l0_2.length c0_2, .slice A0_3 l0_3.length c0_3, .slice A0_4 l0_4.length c0_4, .slice A0_5 l0_5.length c0_5, .slice A0_6 l0_6.length c0_6, .slice A0_7 l0_7.length c0_7] 26 (0, 0)) (bf Ce.out Cm.out) hb); replace Cf := am (bQ (g := Dx) (o := .cells #[.string (⟨#[]⟩ : ByteArray), .int .i64 0, .slice none 0 0, .slice none 0 0, .slice none 0 0, .slice none 0 0, .slice none 0 0, .slice none 0 0] 39 (0, 0)) (bf Cf.out Ci.out) hb); replace Cb := am (bQ (g := Ek) (o := .cells #[.string a0_0, .int .i64 a0_1, .slice Jb t233.length Jc, .slice Jt t236.length Ju, .slice Jv t239.length Jw, .slice Ky t242.length Kz, .slice Oo t245.length Oq, .slice none 0 0] 39 (0, 0)) (bp Cb.out) hb); replace HB := ho hb; clear hb ho0; obtain ⟨Qf, Qg, Qh⟩ := Kd.aI Ke.out; subst Qh; have Ti := dD Cb.out; have Tj := dD Cf.out))
 refine bodyPost_ret (results_cell_row rfl _ _ Dx 39 #[.string a0_0, .int .i64 a0_1, .slice Jb t233.length Jc, .slice Jt t236.length Ju, .slice Jv t239.length Jw, .slice Ky t242.length Kz, .slice Oo t245.length Oq, .slice Qf t248.length Qg] (0, 0) _ rfl (bpf Cf.out Ci.out) Tryz.underlying39 rfl (by kernel_rfl)) rfl ?_
 exact ⟨_, _, _, _, _, _, er, by (with_reducible repeat (first | apply Kd.fM | apply Kd.fK | apply Kd.dx)); exact Kd.ax (eU (Kd.aG (Kd.aG Dj.out Cb.out (by decide)) Cf.out (by decide))) (fun _ hk => hk.1.1.2), by (with_reducible repeat (first | apply Kd.fM | apply Kd.fK | apply Kd.dx)); exact Kd.ax (eU (Kd.aG (Kd.aG Dl.out Cb.out (by decide)) Cf.out (by decide))) (fun _ hk => hk.1.1.2), by (with_reducible repeat (first | apply Kd.fM | apply Kd.fK | apply Kd.dx)); exact Kd.ax (eU (Kd.aG (Kd.aG Dy.out Cb.out (by decide)) Cf.out (by decide))) (fun _ hk => trivial), by (with_reducible repeat (first | apply Kd.fM | apply Kd.fK | apply Kd.dx)); exact Kd.ax (eU (Kd.aG (Kd.aG Dz.out Cb.out (by decide)) Cf.out (by decide))) (fun _ hk => ⟨hk.1.1.1.2, hk.1.1.2⟩), by (with_reducible repeat (first | apply Kd.fM | apply Kd.fK | apply Kd.dx)); exact Kd.ax (eU (Kd.aG (Kd.aG Gm.out Cb.out (by decide)) Cf.out (by decide))) (fun _ hk => ⟨hk.1.1.1.2, hk.1.1.2⟩), by (with_reducible repeat (first | apply Kd.fM | apply Kd.fK | apply Kd.dx)); exact Kd.ax (eU (Kd.aG (Kd.aG Ke.out Cb.out (by decide)) Cf.out (by decide))) (fun _ hk => ⟨hk.1.1.1.2, hk.1.1.2⟩), bl⟩
def iF.f (a0_0 : Int) (a0_1 : Int) (a0_2 : Int) : Option (Int × Int × Int) := some (a0_0, a0_1, a0_2)
theorem iF.calls (a0_0 : Int) (a0_1 : Int) (a0_2 : Int) (r1 : Int) (r2 : Int) (r3 : Int) (w : World) (h : iF.f a0_0 a0_1 a0_2 = some (r1, r2, r3)) :
  Calls Tryz.prog 48 #[.agg #[.int .i64 a0_0, .int .i64 a0_1, .int .i64 a0_2]] w fun e w' => e = .returned (.agg #[.int .i64 r1, .int .i64 r2, .int .i64 r3]) ∧ Below w.heap.size w w' := by
 have hu91 := Tryz.underlying91
 have hu58 := Tryz.underlying58
 have HB := am (Below.refl w.heap.size w)
 have H := h
 clear h
 unfold iF.f at H
 simp only [Option.some.injEq, Prod.mk.injEq] at H
 obtain ⟨rfl, rfl, rfl⟩ := H
 go_enter Tryz.func48, Tryz.ntmps48
 go_wp2_with (first | ((with_reducible refine g_ 1 ?_); refine bx 1 #[.int .i64 a0_0, .int .i64 a0_1, .int .i64 a0_2] 91 ?_; intro Ot hg w2 hbox hb; have Em := am hbox; have Ou := am (bsz hg : w.heap.size ≤ Ot); have Rk := Ou; replace HB := ho hb; clear hb hbox hg) | ((with_reducible refine g_ 2 ?_); refine bx 2 #[.int .i64 0, .int .i64 0, .int .i64 0] 58 ?_; intro Kf hg w3 hbox hb; have Gn := am hbox; have Ov := am (bsz hg : w.heap.size ≤ Kf); have Rl := Ov; have Ey := no hg Em; have Jd := am Ey.out.symm; replace Em := bo Em hb; replace HB := ho hb; clear hb hbox hg) | ((with_reducible refine g_ 3 ?_); refine bx 3 #[.int .i64 0, .int .i64 0, .int .i64 0] 58 ?_; intro Ox hg w4 hbox hb; have Oy := am hbox; have Oz := am (bsz hg : w.heap.size ≤ Ox); have Rm := Oz; have Ez := no hg Em; have Je := am Ez.out.symm; replace Em := bo Em hb; have Du := no hg Gn; have Jf := am Du.out.symm; replace Gn := bo Gn hb; replace HB := ho hb; clear hb hbox hg; have Ls := Ey.out; have Lu := Jd.out; have Ko := Ez.out; have Kp := Je.out; have Z7 := jk Em.out; have Ly := Jf.out; have Ma := Du.out; have Z9 := jk Oy.out; have Qt := jk Gn.out))
 refine bodyPost_ret (results_cell_row rfl _ _ Kf 58 #[.int .i64 a0_0, .int .i64 a0_1, .int .i64 a0_2] (0, 0) _ rfl (bpf Gn.out Du.out) Tryz.underlying58 rfl (by kernel_rfl)) rfl ?_
 exact ⟨er, bl⟩
def dh.l0 : Nat → List (S91) → List (S58) → Int → Option ((List (S58)))
 | 0, _, _, _ => none
 | k + 1, x0, x3, x4 => if x4 < (x0.length : Int) then (if 0 ≤ x4 then ((iF.f ((kP x0 x4).f0) ((kP x0 x4).f1) ((kP x0 x4).f2)).bind fun bt258 => (if x4 < (x3.length : Int) then (dh.l0 k x0 (x3.set (x4 : Int).toNat (⟨bt258.1, bt258.2.1, bt258.2.2⟩ : S58)) (wrap64 (x4 + 1))) else (none))) else (none)) else (some x3)
def dh.f (k : Nat) (l0 : List (S91)) : Option ((List (S58))) := if 0 ≤ (l0.length : Int) then (if ((l0.length : Int) : Int).toNat ≤ 11728124029610 then (dh.l0 k l0 (List.replicate ((l0.length : Int) : Int).toNat z58) 0) else (none)) else (none)
theorem dh.bI : ∀ k, (∀ y0 y1 y2, LeO (dh.l0 k y0 y1 y2) (dh.l0 (k + 1) y0 y1 y2))
 | 0 => fun _ _ _ r h => by simp [dh.l0] at h
 | k + 1 => by
  have ih0 := dh.bI k
  ·intro y0 y1 y2
   unfold dh.l0
   exact mo
theorem dh.mono : ∀ a0 k, LeO (dh.f k a0) (dh.f (k + 1) a0) := by
 intro a0 k
 have ih0 := dh.bI k
 unfold dh.f
 exact mo
theorem dh.calls (k : Nat) (A0 : Option Addr) (c0 : Nat) (l0 : List (S91)) (r : List (S58)) (w : World) (hr0 : Kd.C k91 w A0 l0.length l0) (hc0 : l0.length ≤ c0) (h : dh.f k l0 = some r) :
  Calls Tryz.prog 25 #[.slice A0 l0.length c0] w fun e w' => ∃ v0_ : Value, e = .returned (v0_) ∧ Kd.R k58 58 w' w.heap.size (fun _ => True) v0_ r ∧ Below w.heap.size w w' := by
 have hu91 := Tryz.underlying91
 have hu58 := Tryz.underlying58
 have Kj := am hr0
 have Po := am hc0
 clear hr0 hc0
 have HB := am (Below.refl w.heap.size w)
 have H := h
 clear h
 unfold dh.f at H
 revert H; refine i2 fun Gq Gs H => ?_
 revert H; refine i2 fun Gu Gv H => ?_
 generalize h_ : ((List.replicate ((l0.length : Int) : Int).toNat z58) : List (S58)) = Qi at H
 have Kg := am h_.symm; clear h_; try rw [Option.bind_some] at H
 have H' := am H; clear H
 go_enter Tryz.func25, Tryz.ntmps25
 go_wp2_with (first | ((with_reducible refine dH (N := 7) rfl ?_); refine Kd.pI k58 _ 58 rfl (N := 7) rfl 41 _ _ rfl (l0.length : Int) rfl rfl Tryz.underlying41 (.agg #[(.int .i64 0), (.int .i64 0), (.int .i64 0)]) 24 info58 rfl (by decide) (by omega) z58 (ok := fun _ => True) (okp := fun _ => True) (lY _ _ _ z58 ) (fun _ hk => hk) trivial (ode) (Nat.le_trans (Nat.mul_le_mul_right _ (ode : (l0.length : Int).toNat ≤ 11728124029610)) (by omega)) (Below.refl _ _) (Nat.le_refl _) ?_; intro v255 w4 ho5 hb hg_ hnew_; clear hg_ hnew_; (first | rw [← Kg.out] at ho5 | (simp only [Int.reduceToNat] at ho5; rw [← Kg.out] at ho5)); have Pc := am (Kd.bz ho5 (az bl)); replace HB := ho hb; clear hb ho5))
 go_loopg [4] k (fun kq v4 w' => ∃ (x3_1 : List (S58)) (x4_1 : Int), v4 = .int .i64 x4_1 ∧ aa (dh.l0 kq l0 x3_1 x4_1 = some r) ∧ aa (kq ≤ k) ∧ aa (Kd.R k58 58 w' w.heap.size (fun _ => True) v255 x3_1) ∧ aa (Below w.heap.size w w'))
 case atStart => exact ⟨(Qi), (0), rs, H', ⟨Nat.le_refl _⟩, ⟨kr Pc.out⟩, ⟨bl⟩⟩
 case round =>
  clear H'
  try clear Gq; try clear Gs; try clear Gu; try clear Gv
  obtain ⟨x3_1, x4_1, rfl, HA, Jj, Cd, HB⟩ := hrel
  cases gk with
  | zero => exact absurd HA.out (by simp [dh.l0])
  | succ k1 =>
   have H := HA.out
   clear HA
   simp only [dh.l0] at H
   revert H; refine iDb (fun Gw H => ?_) fun Gw H => ?_
   ·revert H; refine i1 fun Kk H => ?_
    replace H := bi H; obtain ⟨⟨t258, t259, t260⟩, A8, H⟩ := H; dsimp only at H
    revert H; refine i1 fun Md H => ?_
    generalize h_ : ((x3_1.set (x4_1 : Int).toNat (⟨t258, t259, t260⟩ : S58)) : List (S58)) = Pd at H
    have Pe := am h_.symm; clear h_; try rw [Option.bind_some] at H
    have H' := am H; clear H
    have La : 0 ≤ (x4_1 : Int) := ode
    have Lc : x4_1 < (l0.length : Int) := ode
    obtain ⟨Rn, e257, Il, Im, Io⟩ := at_T91 Kj.out x4_1 La Lc
    cases e257
    obtain ⟨Il, Im, Io⟩ := hb3 HB.out Il Im Io
    replace La := eq_true La
    replace Lc := eq_true Lc
    go_wp2_with (first | ((with_reducible refine c_ 48 ?_); refine gc 48 (some 20) Tryz.func48 (iF.calls _ _ _ _ _ _ _ A8.out) ?_; rintro e w11 ⟨rfl, hb⟩; refine ⟨_, rfl, ?_⟩; replace Cd := ro Cd hb; replace HB := ho hb; clear hb; have Jk : 0 ≤ (x4_1 : Int) := ode; have Jl : (x4_1 : Int) < ((x3_1.length : Int) : Int) := ode; obtain ⟨Cc, En, Eo, Gh, Jm, Mo, Gi⟩ := Kd.kH Cd.out (by omega); (first | cases Eo | (injection Eo with ea_ en_ ec_; (first | subst ea_ | (injection ea_ with ea_; subst ea_)); subst ec_; clear en_)); have Dn := aa.mk Gh; have Mp := aa.mk Gi; clear Gh Jm Gi; obtain ⟨Mq, Gj, hM10, Cn, Dc⟩ := Kd.fe Cd.out z58 (x4_1 : Int) Jk Jl; obtain rfl := iX hM10; have Jn : w11.cell? ⟨Cc, (x4_1 : Int).toNat * 3, none⟩ = some (.int .i64 ((aD x3_1 x4_1).f0)) := Cn 0 _ rfl; have Jo : w11.cell? ⟨Cc, (x4_1 : Int).toNat * 3 + 1, none⟩ = some (.int .i64 ((aD x3_1 x4_1).f1)) := Cn 1 _ rfl; have Jp : w11.cell? ⟨Cc, (x4_1 : Int).toNat * 3 + 2, none⟩ = some (.int .i64 ((aD x3_1 x4_1).f2)) := Cn 2 _ rfl; have Jq : w11.frozen? ⟨Cc, (x4_1 : Int).toNat * 3, none⟩ = false := Dc 0; have Jr : w11.frozen? ⟨Cc, (x4_1 : Int).toNat * 3 + 1, none⟩ = false := Dc 1; have Js : w11.frozen? ⟨Cc, (x4_1 : Int).toNat * 3 + 2, none⟩ = false := Dc 2; clear Gj Cn Dc hM10; replace Jk := eq_true Jk; replace Jl := eq_true Jl; have Gk := am (show Kd.R k58 58 w11 w.heap.size (fun _ => True) (.slice (some ⟨Cc, 0, none⟩) x3_1.length En) x3_1 from (kr Cd.out)); obtain ⟨Mv, Dw, hM12, Cj, Df⟩ := Kd.fe Gk.out z58 (x4_1 : Int) (ode) (by have h_ : (x4_1 : Int) < ((x3_1.length : Int) : Int) := ode; first | exact h_ | (have e_ := (Kd.af Cd.out).1; omega) | simpa using h_); obtain rfl := iX hM12; have Eb := Kd.jd Gk.out (x4_1 : Int) (ode) (by have h_ : (x4_1 : Int) < ((x3_1.length : Int) : Int) := ode; first | exact h_ | (have e_ := (Kd.af Cd.out).1; omega) | simpa using h_) (seg := [.int .i64 t258, .int .i64 t259, .int .i64 t260]) (j := 0) Dw Cj (show 3 ≤ 3 from by decide) (x' := (⟨t258, t259, t260⟩ : S58)) (lY _ _ _ (⟨t258, t259, t260⟩ : S58) ) (fun _ hk => hk); have Ec := Cj 0 _ rfl; (try simp only [show (k58).sz = 3 from rfl, Nat.mul_one, Nat.add_zero] at Ec); have Ed := Df 0; (try simp only [show (k58).sz = 3 from rfl, Nat.mul_one, Nat.add_zero] at Ed); have Ee := Cj 1 _ rfl; (try simp only [show (k58).sz = 3 from rfl, Nat.mul_one, Nat.add_zero] at Ee); have Ef := Df 1; (try simp only [show (k58).sz = 3 from rfl, Nat.mul_one, Nat.add_zero] at Ef); have Eg := Cj 2 _ rfl; (try simp only [show (k58).sz = 3 from rfl, Nat.mul_one, Nat.add_zero] at Eg); have Eh := Df 2; (try simp only [show (k58).sz = 3 from rfl, Nat.mul_one, Nat.add_zero] at Eh); clear Dw Cj Df hM12) | ((with_reducible refine eB (t := 58) (p := 21) rfl ?_); refine dV (t := 58) (p := 21) (v := ?vo_w13) (w1 := (((w11.setCell ⟨Cc, (x4_1 : Int).toNat * 3, none⟩ (.int .i64 t258)).setCell ⟨Cc, (x4_1 : Int).toNat * 3 + 1, none⟩ (.int .i64 t259)).setCell ⟨Cc, (x4_1 : Int).toNat * 3 + 2, none⟩ (.int .i64 t260))) ?hg ?ho ?hn ?hr ?_; (case ho => rfl); (case hg => rfl); (case hn => rfl); (case hr => first | (go_simp; done) | (go_simp; rfl)); intro w13 hw; have hg : w11.grownBy w13 (some Cc) := (by rw [hw]; exact Eb.2); have hp_ : Kd.R k58 58 w13 w.heap.size (fun _ => True) (.slice (some ⟨Cc, 0, none⟩) x3_1.length En) Pd := (by rw [hw, Pe.out]; exact Eb.1); clear Eb; replace Cd := am (hp_); replace HB := am ((by rw [hw]; exact bJ (bJ (bJ (HB.out) Dn.out) Dn.out) Dn.out : Below w.heap.size w w13)); clear hg hw hp_))
    go_roundg k1
    case measure => have := Jj.out; omega
    case rel => exact ⟨(Pd), (wrap64 (x4_1 + 1)), rs, H', ⟨by have := Jj.out; omega⟩, ⟨kr Cd.out⟩, ⟨bl⟩⟩
   obtain rfl := Option.some.inj H
   go_wp2
   go_ret
   exact ⟨_, er, kr Cd.out, bl⟩
def dI.f (k : Nat) (l0_0 : List (S91)) (a0_1 : Int) (a0_2 : Int) (a0_3 : Int) (a0_4 : Int) : Option ((List (S58)) × Int × Int × Int × Int) := (dh.f k l0_0).bind fun t265 => (some (t265, a0_1, a0_2, a0_3, a0_4))
theorem dI.mono : ∀ a0 a1 a2 a3 a4 k, LeO (dI.f k a0 a1 a2 a3 a4) (dI.f (k + 1) a0 a1 a2 a3 a4) := by
 intro a0 a1 a2 a3 a4 k
 unfold dI.f
 repeat' (with_reducible first | exact dh.mono .. | exact LeO.refl _ | exact LeO.none _ | refine LeO.ite ?_ ?_ | refine LeO.bind ?_ (fun _ => ?_))
theorem dI.calls (k : Nat) (A0_0 : Option Addr) (c0_0 : Nat) (l0_0 : List (S91)) (a0_1 : Int) (a0_2 : Int) (a0_3 : Int) (a0_4 : Int) (r1 : List (S58)) (r2 : Int) (r3 : Int) (r4 : Int) (r5 : Int) (w : World) (hr0_0 : Kd.C k91 w A0_0 l0_0.length l0_0) (hc0_0 : l0_0.length ≤ c0_0) (h : dI.f k l0_0 a0_1 a0_2 a0_3 a0_4 = some (r1, r2, r3, r4, r5)) :
  Calls Tryz.prog 8 #[.agg #[.slice A0_0 l0_0.length c0_0, .int .i64 a0_1, .int .i64 a0_2, .int .i64 a0_3, .int .i64 a0_4]] w fun e w' => ∃ v0_ : Value, e = .returned (.agg #[v0_, .int .i64 r2, .int .i64 r3, .int .i64 r4, .int .i64 r5]) ∧ Kd.R k58 58 w' w.heap.size (fun _ => True) v0_ r1 ∧ Below w.heap.size w w' := by
 have hu29 := Tryz.underlying29
 have hu43 := Tryz.underlying43
 have Pg := am hr0_0
 have Ph := am hc0_0
 clear hr0_0 hc0_0
 have HB := am (Below.refl w.heap.size w)
 have H := h
 clear h
 unfold dI.f at H
 revert H; refine bj fun t265 A2 H => ?_
 simp only [Option.some.injEq, Prod.mk.injEq] at H
 obtain ⟨rfl, rfl, rfl, rfl, rfl⟩ := H
 go_enter Tryz.func8, Tryz.ntmps8
 go_wp2_with (first | ((with_reducible refine g_ 1 ?_); refine bx 1 #[.slice A0_0 l0_0.length c0_0, .int .i64 a0_1, .int .i64 a0_2, .int .i64 a0_3, .int .i64 a0_4] 29 ?_; intro Pi hg w3 hbox hb; have Dk := am hbox; have Pj := am (bsz hg : w.heap.size ≤ Pi); have Ro := Pj; replace HB := ho hb; clear hb hbox hg) | ((with_reducible refine g_ 2 ?_); refine bx 2 #[.slice none 0 0, .int .i64 0, .int .i64 0, .int .i64 0, .int .i64 0] 43 ?_; intro Kh hg w4 hbox hb; have Dp := am hbox; have Pk := am (bsz hg : w.heap.size ≤ Kh); have Rq := Pk; have Ga := no hg Dk; have Jg := am Ga.out.symm; replace Dk := bo Dk hb; replace HB := ho hb; clear hb hbox hg) | ((with_reducible refine g_ 3 ?_); refine bx 3 #[.slice none 0 0, .int .i64 0, .int .i64 0, .int .i64 0, .int .i64 0] 43 ?_; intro Pm hg w5 hbox hb; have Gp := am hbox; have Pn := am (bsz hg : w.heap.size ≤ Pm); have Rt := Pn; have Gf := no hg Dk; have Jh := am Gf.out.symm; replace Dk := bo Dk hb; have Dv := no hg Dp; have Ji := am Dv.out.symm; replace Dp := bo Dp hb; replace HB := ho hb; clear hb hbox hg; have Ko := Ga.out; have Kp := Jg.out; have Sa := Gf.out; have Sf := Jh.out; have Z8 := dG Dk.out) | ((with_reducible refine c_ 25 ?_); refine gc 25 (some 6) Tryz.func25 (dh.calls _ _ _ _ _ _ ?Dh ?Di A2.out) ?_; (case Dh => exact cb Pg.out); (case Di => exact Ph.out); rintro e w9 ⟨v266, rfl, ho0, hb⟩; refine ⟨_, rfl, ?_⟩; have Ki := am (Kd.bz ho0 (az bl)); refine r3_ hb Dk Dp Gp ?_; clear Dk Dp Gp; intro Dk Dp Gp; replace HB := ho hb; clear hb ho0; obtain ⟨Qj, En, Eo⟩ := Kd.aI Ki.out; subst Eo; have Ol := Ji.out; have Om := Dv.out; have Tm := dG Gp.out; have Rz := dG Dk.out; have Tn := dG Dp.out))
 refine bodyPost_ret (results_cell_row rfl _ _ Kh 43 #[.slice Qj t265.length En, .int .i64 a0_1, .int .i64 a0_2, .int .i64 a0_3, .int .i64 a0_4] (0, 0) _ rfl (bpf Dp.out Dv.out) Tryz.underlying43 rfl (by kernel_rfl)) rfl ?_
 exact ⟨_, er, by (with_reducible repeat (first | apply Kd.fM | apply Kd.fK | apply Kd.dx)); exact Kd.ax (eU (Kd.aG (Kd.aG Ki.out Gp.out (by decide)) Dp.out (by decide))) (fun _ hk => trivial), bl⟩
/-- Growing the nil slice (no other is served). -/
def eZ.f (l0 : List ByteArray) (a1 : Int) : Option (List ByteArray) := if l0.length = 0 ∧ 0 ≤ a1 ∧ a1 ≤ 1048576 then some [] else none
theorem eZ.calls (A0 : Option Addr) (c0 : Nat) (l0 : List ByteArray) (a1 : Int) (r : List ByteArray) (w : World) (hr0 : Kd.C Kd.string w A0 l0.length l0) (hc0 : A0 = none ∧ c0 = 0) (h : eZ.f l0 a1 = some r) :
  Calls Tryz.prog 54 #[.slice A0 l0.length c0, .int .i64 a1] w fun e w' => ∃ v0_ : Value, e = .returned (v0_) ∧ Kd.R Kd.string 9 w' w.heap.size (fun _ => True) v0_ r ∧ Below w.heap.size w w' := by
 obtain ⟨rfl, rfl⟩ := hc0
 unfold eZ.f at h
 by_cases hd : l0.length = 0 ∧ 0 ≤ a1 ∧ a1 ≤ 1048576
 ·rw [if_pos hd] at h
  cases h
  obtain ⟨h1, h2, h3⟩ := hd
  obtain rfl : l0 = [] := List.eq_nil_of_length_eq_zero h1
  obtain ⟨n, rfl⟩ := Int.eq_ofNat_of_zero_le h2
  by_cases hn : n = 0
  ·subst hn
   refine (Any8.slices_Grow_room Tryz.gr54 none 0 0 0 w (by omega) (by omega) (by omega) (by omega)).mono ?_
   rintro e w' ⟨rfl, rfl⟩
   exact ⟨_, rfl, Kd.je _ _ _ _ _, Below.refl _ _⟩
  obtain ⟨i0, hi, hzz⟩ := Option.map_eq_some_iff.1 jq
  simp only [Prod.mk.injEq] at hzz
  obtain ⟨Sg, Tp, Si⟩ := hzz
  refine (Any8.slices_Grow_grow Tryz.gr54 i0 _ hi Sg (by omega) none 0 0 n [] w (by omega) (by omega) (by rw [Si]; omega) (by omega) (by simp) (fun _ => rfl) (fun a ha => by cases ha)).mono ?_
  rintro e w' ⟨rfl, rfl⟩
  refine ⟨_, rfl, Kd.qE (World.ownsRow_made w.drew _ _ (Nat.le_refl _) ?_ ?_) (fun _ _ => trivial), ((Below.refl _ w).drew).alloc (Nat.le_refl _) _⟩
  ·exact Nat.le_trans (grownCap_le_maxLen w (0 + n) 0 _ (by unfold maxLen; omega)) (Nat.le_refl _)
  have hg := grownCap_ge w n 0 (Tryz.qz.t 25)
  rw [Array.size_append, Array.size_append, size_zeroCells, size_zeroCells]
  simp [Value.cells]
  omega
 rw [if_neg hd] at h; cases h
mutual
def aj.l0 : Nat → List (List ByteArray) → Int → List (List ByteArray) → Int → Int → Option (List ByteArray)
 | 0, _, _, _, _, _ => none
 | k + 1, x0, x3, x9, x10, x11 => if x11 < x10 then (if 0 ≤ x11 then (if x11 < (x9.length : Int) then (if (wrap64 (x3 + ((ky x9 x11).length : Int))) < 0 then (none) else (aj.l0 k x0 (wrap64 (x3 + ((ky x9 x11).length : Int))) x9 x10 (wrap64 (x11 + 1)))) else (none)) else (none)) else ((eZ.f ([] : List ByteArray) x3).bind fun t269 => (aj.l1 k t269 x0 (x0.length : Int) 0))
def aj.l1 : Nat → List ByteArray → List (List ByteArray) → Int → Int → Option (List ByteArray)
 | 0, _, _, _, _ => none
 | k + 1, x6, x25, x26, x27 => if x27 < x26 then (if 0 ≤ x27 then (if x27 < (x25.length : Int) then (if x6.length + (ky x25 x27).length < 8796093022208 then (aj.l1 k (x6 ++ (ky x25 x27)) x25 x26 (wrap64 (x27 + 1))) else (none)) else (none)) else (none)) else (some x6)
end
def aj.f (k : Nat) (l0 : List (List ByteArray)) : Option (List ByteArray) := aj.l0 k l0 0 l0 (l0.length : Int) 0
theorem aj.bI : ∀ k, (∀ y0 y1 y2 y3 y4, LeO (aj.l0 k y0 y1 y2 y3 y4) (aj.l0 (k + 1) y0 y1 y2 y3 y4)) ∧ (∀ y0 y1 y2 y3, LeO (aj.l1 k y0 y1 y2 y3) (aj.l1 (k + 1) y0 y1 y2 y3))
 | 0 => ⟨fun _ _ _ _ _ r h => by simp [aj.l0] at h, fun _ _ _ _ r h => by simp [aj.l1] at h⟩
 | k + 1 => by
  obtain ⟨ih0, ih1⟩ := aj.bI k
  refine ⟨?_, ?_⟩
  ·intro y0 y1 y2 y3 y4
   unfold aj.l0
   repeat' (with_reducible first | exact ih0 .. | exact ih1 .. | exact LeO.refl _ | exact LeO.none _ | refine LeO.ite ?_ ?_ | refine LeO.bind ?_ (fun _ => ?_))
  intro y0 y1 y2 y3
  unfold aj.l1
  repeat' (with_reducible first | exact ih0 .. | exact ih1 .. | exact LeO.refl _ | exact LeO.none _ | refine LeO.ite ?_ ?_ | refine LeO.bind ?_ (fun _ => ?_))
theorem aj.mono : ∀ a0 k, LeO (aj.f k a0) (aj.f (k + 1) a0) := by
 intro a0 k
 obtain ⟨ih0, ih1⟩ := aj.bI k
 unfold aj.f
 repeat' (with_reducible first | exact ih0 .. | exact ih1 .. | exact LeO.refl _ | exact LeO.none _ | refine LeO.ite ?_ ?_ | refine LeO.bind ?_ (fun _ => ?_))
theorem aj.calls (k : Nat) (A0 : Option Addr) (c0 : Nat) (l0 : List (List ByteArray)) (r : List ByteArray) (w : World) (hr0 : Kd.C (Kd.slice 9 Kd.string) w A0 l0.length l0) (hc0 : l0.length ≤ c0) (h : aj.f k l0 = some r) :
  Calls Tryz.prog 27 #[.slice A0 l0.length c0] w fun e w' => ∃ v0_ : Value, e = .returned (v0_) ∧ Kd.R Kd.string 9 w' w.heap.size (fun _ => True) v0_ r ∧ Below w.heap.size w w' := by
 have Dp := am hr0
 have Eo := am hc0
 clear hr0 hc0
 have HB := am (Below.refl w.heap.size w)
 have H := h
 clear h
 unfold aj.f at H
 have H' := am H; clear H
 go_enter Tryz.func27, Tryz.ntmps27
 go_wp2
 go_loopg [3, 11] k (fun kq v3 v11 w' => ∃ (x3_1 : Int) (x11_1 : Int), v3 = .int .i64 x3_1 ∧ v11 = .int .i64 x11_1 ∧ aa (aj.l0 kq l0 x3_1 l0 (l0.length : Int) x11_1 = some r) ∧ aa (kq ≤ k) ∧ aa (Below w.heap.size w w'))
 case atStart => exact ⟨(0), (0), rs, rs, H', ⟨Nat.le_refl _⟩, ⟨bl⟩⟩
 case round =>
  clear H'
  obtain ⟨x3_1, x11_1, rfl, rfl, HA, Dq, HB⟩ := hrel
  cases gk with
  | zero => exact absurd HA.out (by simp [aj.l0])
  | succ k1 =>
   have H := HA.out
   clear HA
   simp only [aj.l0] at H
   revert H; refine iDb (fun Cd H => ?_) fun Cd H => ?_
   ·revert H; refine i1 fun Dt H => ?_
    revert H; refine i1 fun Cc H => ?_
    revert H; refine i9 fun c5 H => ?_
    have Ep := decide_eq_false c5
    clear c5
    have H' := am H; clear H
    have Du : 0 ≤ (x11_1 : Int) := ode
    have Dv : x11_1 < (l0.length : Int) := ode
    obtain ⟨Gi, Es, Et, e268, Ci, Cj, Cm⟩ := at_L9 Dp.out x11_1 Du Dv
    cases e268
    replace Ci := hbc HB.out Ci
    have Ek := am Cm
    have Em := am Cj
    clear Cm Cj
    replace Du := eq_true Du
    replace Dv := eq_true Dv
    go_wp2
    go_roundg k1
    case measure => have := Dq.out; omega
    case rel => exact ⟨(wrap64 (x3_1 + ((ky l0 x11_1).length : Int))), (wrap64 (x11_1 + 1)), rs, rs, H', ⟨by have := Dq.out; omega⟩, ⟨bl⟩⟩
   revert H; refine bj fun t269 A6 H => ?_
   have H' := am H; clear H
   go_wp2_with (first | ((with_reducible refine kT (f := 54) rfl ?_); refine pg (some 24) rfl rfl Tryz.func54 (by kernel_rfl) rfl #[.slice none 0 0, .int .i64 x3_1] rfl ar ?_; (refine (eZ.calls _ _ ([] : List ByteArray) x3_1 t269 _ ?Cb ?Dh A6.out).mono ?_); (case Cb => exact Kd.C_nil _ _); (case Dh => exact ⟨rfl, rfl⟩); rintro e w7 ⟨v270, rfl, ho0, hb⟩; refine ⟨_, rfl, ?_⟩; have Ea := am (Kd.bz ho0 (az bl)); replace HB := ho hb; clear hb ho0))
   go_loopg [6, 27] k1 (fun kq v6 v27 w' => ∃ (x6_2 : List ByteArray) (x27_2 : Int), v27 = .int .i64 x27_2 ∧ aa (aj.l1 kq x6_2 l0 (l0.length : Int) x27_2 = some r) ∧ aa (kq ≤ k1) ∧ aa (Kd.R Kd.string 9 w' w.heap.size (fun _ => True) v6 x6_2) ∧ aa (Below w.heap.size w w'))
   case atStart => exact ⟨(t269), (0), rs, H', ⟨Nat.le_refl _⟩, ⟨kr Ea.out⟩, ⟨bl⟩⟩
   case round =>
    clear H'
    try clear Cd
    obtain ⟨x6_2, x27_2, rfl, HA, Gj, Dw, HB⟩ := hrel
    cases gk with
    | zero => exact absurd HA.out (by simp [aj.l1])
    | succ k2 =>
     have H := HA.out
     clear HA
     simp only [aj.l1] at H
     revert H; refine iDb (fun Eu H => ?_) fun Eu H => ?_
     ·revert H; refine i1 fun Eb H => ?_
      revert H; refine i1 fun Gk H => ?_
      revert H; refine i0 fun Ew H => ?_
      have LMc11 := am Ew; clear Ew
      generalize h_ : ((x6_2 ++ (ky l0 x27_2)) : List ByteArray) = Ey at H
      have Ec := am h_.symm; clear h_; try rw [Option.bind_some] at H
      have H' := am H; clear H
      have Dx : 0 ≤ (x27_2 : Int) := ode
      have Dy : x27_2 < (l0.length : Int) := ode
      obtain ⟨Gl, Ez, Ga, e272, Cn, Dc, Df⟩ := at_L9 Dp.out x27_2 Dx Dy
      cases e272
      replace Cn := hbc HB.out Cn
      have Dj := am Df
      have En := am Dc
      clear Df Dc
      replace Dx := eq_true Dx
      replace Dy := eq_true Dy
      go_wp2_with (first | ((with_reducible refine gZ (b := .append) (xs := #[.tmp 31, .tmp 32]) rfl ?_); at_builtin; refine Kd.oF Kd.string (w0 := w) w.heap.size rfl (.tmp 31) (.tmp 32) 22 9 (.string ⟨#[]⟩) 16 rfl Tryz.underlying22 jq rfl (by decide) (by omega) u6 x6_2 (ky l0 x27_2) _ _ _ (fun _ => True) (fun _ => False) rfl rfl ?aO ?aR (fun _ _ h => h) (fun _ h => h.elim) ?aF ?aB ?aS ?aL ?_; (case aR => repeat (first | exact (Kd.dK Dj.out HB.out) | (with_reducible refine Kd.fV ?_ _) | (with_reducible refine Kd.fU ?_ _) | (with_reducible refine Kd.gU ?_))); (case aB => exact bl); (case aF => exact (fun _ _ => trivial)); (case aO => exact (kr Dw.out)); (case aS => exact (az bl)); (case aL => have := LMc11.out; omega); intro v274 w12 ho hb hg hat; rw [← Ec.out] at ho; have n0_ := am (hb); have n1_ := am (ho); clear HB; clear Dw; have HB := n0_; have Ed := n1_; clear n0_ n1_; clear ho hb hg hat))
      go_roundg k2
      case measure => have := Dq.out; have := Gj.out; omega
      case rel => exact ⟨(Ey), (wrap64 (x27_2 + 1)), rs, H', ⟨by have := Dq.out; have := Gj.out; omega⟩, ⟨kr Ed.out⟩, ⟨bl⟩⟩
     obtain rfl := Option.some.inj H
     go_wp2
     go_ret
     exact ⟨_, er, kr Dw.out, bl⟩
def dZ.f (a0 : Int) (a1 : Int) (a2 : Int) : Option (Bool) := if a1 ≤ a0 then (some (decide (a0 ≤ a2))) else (some false)
theorem dZ.calls (a0 : Int) (a1 : Int) (a2 : Int) (r : Bool) (w : World) (h : dZ.f a0 a1 a2 = some r) :
  Calls Tryz.prog 28 #[.int .i64 a0, .int .i64 a1, .int .i64 a2] w fun e w' => e = .returned (.bool r) ∧ eT w w' := by
 have H := h
 clear h
 unfold dZ.f at H
 revert H; refine iDb (fun Cc H => ?_) fun Cc H => ?_
 ·obtain rfl := Option.some.inj H
  go_enter Tryz.func28, Tryz.ntmps28
  go_wp2
  go_ret
  exact ⟨rs, dr⟩
 obtain rfl := Option.some.inj H
 go_enter Tryz.func28, Tryz.ntmps28
 go_wp2
 go_ret
 exact ⟨rs, dr⟩
def gp.f (a0 a1 : ByteArray) : Option ByteArray := if a0.size ≤ 9223372036854775807 ∧ a1.size < 4294967281 ∧ a1.data.toList.all (fun b => decide (b.toNat < 128)) = true then some ⟨(Lib.trimS a0.data.toList a1.data.toList).toArray⟩ else none
theorem gp.calls (a0 : ByteArray) (a1 : ByteArray) (r : ByteArray) (w : World) (h : gp.f a0 a1 = some r) :
  Calls Tryz.prog 86 #[.string a0, .string a1] w fun e w' => e = .returned (.string r) ∧ Below w.heap.size w w' := by
 unfold gp.f at h
 by_cases hd : a0.size ≤ 9223372036854775807 ∧ a1.size < 4294967281 ∧ a1.data.toList.all (fun b => decide (b.toNat < 128)) = true
 ·rw [if_pos hd] at h
  cases h
  exact Any.strings_Trim_laid Tryz.trim160 (by kernel_rfl) a0 a1 w hd.1 hd.2.1 (ascii_of_all hd.2.2)
 rw [if_neg hd] at h; cases h
def iD.f (a0 : ByteArray) : Option (Bool) := if a0.toList = ([] : List UInt8) then (some false) else (if 0 ≤ 1 then (if 1 ≤ (a0.size : Int) then ((gp.f (a0.extract 0 1) (⟨#[97, 98, 99, 100, 101, 102, 103, 104, 105, 106, 107, 108, 109, 110, 111, 112, 113, 114, 115, 116, 117, 118, 119, 120, 121, 122]⟩ : ByteArray)).bind fun t276 => (if t276.toList = ([] : List UInt8) then ((gp.f a0 (⟨#[97, 98, 99, 100, 101, 102, 103, 104, 105, 106, 107, 108, 109, 110, 111, 112, 113, 114, 115, 116, 117, 118, 119, 120, 121, 122, 48, 49, 50, 51, 52, 53, 54, 55, 56, 57, 95]⟩ : ByteArray)).bind fun t277 => (some (t277.toList == ([] : List UInt8)))) else (some false))) else (none)) else (none))
theorem iD.calls (a0 : ByteArray) (r : Bool) (w : World) (h : iD.f a0 = some r) :
  Calls Tryz.prog 79 #[.string a0] w fun e w' => e = .returned (.bool r) ∧ Below w.heap.size w w' := by
 have HB := am (Below.refl w.heap.size w)
 have H := h
 clear h
 unfold iD.f at H
 revert H; refine iL (fun Cd Dz Di H => ?_) fun c2 Cd Dz Di H => ?_
 ·obtain rfl := Option.some.inj H
  go_enter Tryz.func79, Tryz.ntmps79
  go_wp2
  go_ret
  exact ⟨er, bl⟩
 revert H; refine i2 fun Dt Gm H => ?_
 revert H; refine i2 fun Cc Ee H => ?_
 revert H; refine bj fun t276 A5 H => ?_
 revert H; refine iL (fun Dk Gf Dl H => ?_) fun c6 Dk Gf Dl H => ?_
 ·revert H; refine bj fun t277 A7 H => ?_
  obtain rfl := Option.some.inj H
  go_enter Tryz.func79, Tryz.ntmps79
  go_wp2_with (first | (go_at_call 86; (with_reducible refine (gp.calls _ _ _ _ A5.out).mono ?_); rintro e w8 ⟨rfl, hb⟩; replace HB := ho hb; clear hb) | (go_at_call 86; (with_reducible refine (gp.calls _ _ _ _ A7.out).mono ?_); rintro e w9 ⟨rfl, hb⟩; replace HB := ho hb; clear hb))
  go_ret
  exact ⟨er, bl⟩
 obtain rfl := Option.some.inj H
 go_enter Tryz.func79, Tryz.ntmps79
 go_wp2_with (first | (go_at_call 86; (with_reducible refine (gp.calls _ _ _ _ A5.out).mono ?_); rintro e w10 ⟨rfl, hb⟩; replace HB := ho hb; clear hb))
 go_ret
 exact ⟨er, bl⟩
def fP.f (a0 : ByteArray) : Option (Bool) := if (a0.size : Int) ≤ 20 then ((iD.f a0).bind fun t278 => (some t278)) else (some false)
theorem fP.calls (a0 : ByteArray) (r : Bool) (w : World) (h : fP.f a0 = some r) :
  Calls Tryz.prog 64 #[.string a0] w fun e w' => e = .returned (.bool r) ∧ Below w.heap.size w w' := by
 have HB := am (Below.refl w.heap.size w)
 have H := h
 clear h
 unfold fP.f at H
 revert H; refine iDn (fun c2 Cd H => ?_) fun c2 Cd H => ?_
 ·have Di : decide (a0.size ≤ 20) = true := decide_eq_true (by omega)
  clear c2
  revert H; refine bj fun t278 A3 H => ?_
  obtain rfl := Option.some.inj H
  go_enter Tryz.func64, Tryz.ntmps64
  go_wp2_with (first | (go_at_call 79; (with_reducible refine (iD.calls _ _ _ A3.out).mono ?_); rintro e w4 ⟨rfl, hb⟩; replace HB := ho hb; clear hb))
  go_ret
  exact ⟨er, bl⟩
 have Di : decide (a0.size ≤ 20) = false := decide_eq_false (by omega)
 clear c2
 obtain rfl := Option.some.inj H
 go_enter Tryz.func64, Tryz.ntmps64
 go_wp2
 go_ret
 exact ⟨er, bl⟩
def strings_Contains.f (a0 a1 : ByteArray) : Option Bool := if a0.size < 4294967281 then some (Lib.contains a0.data.toList a1.data.toList) else none
theorem strings_Contains.calls (a0 : ByteArray) (a1 : ByteArray) (r : Bool) (w : World) (hsh : Sh w) (h : strings_Contains.f a0 a1 = some r) :
  Calls Tryz.prog 80 #[.string a0, .string a1] w fun e w' => e = .returned (.bool r) ∧ Below w.heap.size w w' := by
 unfold strings_Contains.f at h
 by_cases hd : a0.size < 4294967281
 ·rw [if_pos hd] at h
  cases h
  obtain ⟨m, hm⟩ := hsh
  exact (Tryz.strings_Contains a0 a1 m w hd hm).mono fun e w' ⟨he, hw⟩ => ⟨he, hw ▸ Below.refl _ _⟩
 rw [if_neg hd] at h; cases h
def gN.f (a0 : ByteArray) : Option (Bool) := if a0.toList = ([] : List UInt8) then (some false) else ((strings_Contains.f a0 (⟨#[32]⟩ : ByteArray)).bind fun t279 => (if t279 = true then (some false) else (if 1 + a0.size ≤ 9223372036854775807 then (if ((⟨#[32]⟩ : ByteArray) ++ a0).size + 1 ≤ 9223372036854775807 then ((strings_Contains.f (⟨#[32, 97, 110, 100, 32, 97, 109, 111, 117, 110, 116, 32, 98, 97, 108, 32, 98, 97, 110, 107, 32, 98, 97, 115, 105, 115, 32, 98, 111, 111, 108, 32, 99, 111, 110, 116, 114, 97, 32, 99, 111, 117, 110, 116, 32, 100, 97, 116, 101, 32, 100, 97, 121, 115, 32, 101, 108, 115, 101, 32, 102, 97, 108, 115, 101, 32, 102, 114, 111, 109, 32, 105, 102, 32, 105, 110, 115, 116, 97, 108, 109, 101, 110, 116, 32, 105, 110, 116, 32, 105, 110, 116, 101, 114, 101, 115, 116, 32, 108, 97, 116, 101, 114, 32, 108, 101, 97, 115, 116, 32, 108, 101, 116, 32, 109, 111, 110, 101, 121, 32, 109, 111, 115, 116, 32, 110, 101, 120, 116, 32, 110, 111, 116, 32, 111, 112, 101, 110, 32, 111, 114, 32, 112, 97, 114, 97, 109, 32, 112, 97, 121, 32, 112, 111, 115, 116, 32, 112, 114, 111, 100, 117, 99, 116, 32, 114, 97, 116, 101, 32, 114, 101, 106, 101, 99, 116, 32, 114, 101, 112, 101, 97, 116, 32, 115, 101, 116, 32, 115, 104, 97, 114, 101, 32, 115, 105, 110, 99, 101, 32, 115, 108, 111, 116, 32, 116, 105, 99, 107, 32, 116, 111, 32, 116, 111, 100, 97, 121, 32, 116, 114, 117, 101, 32]⟩ : ByteArray) (((⟨#[32]⟩ : ByteArray) ++ a0) ++ (⟨#[32]⟩ : ByteArray))).bind fun t280 => (some t280)) else (none)) else (none))))
theorem gN.calls (a0 : ByteArray) (r : Bool) (w : World) (hsh : Sh w) (h : gN.f a0 = some r) :
  Calls Tryz.prog 65 #[.string a0] w fun e w' => e = .returned (.bool r) ∧ Below w.heap.size w w' := by
 have HSH := am hsh; clear hsh
 have HB := am (Below.refl w.heap.size w)
 have H := h
 clear h
 unfold gN.f at H
 revert H; refine iL (fun Cd Dz Di H => ?_) fun c2 Cd Dz Di H => ?_
 ·obtain rfl := Option.some.inj H
  go_enter Tryz.func65, Tryz.ntmps65
  go_wp2
  go_ret
  exact ⟨er, bl⟩
 revert H; refine bj fun t279 A3 H => ?_
 replace H := iT H; rcases H with ⟨rfl, H⟩ | ⟨rfl, H⟩
 ·obtain rfl := Option.some.inj H
  go_enter Tryz.func65, Tryz.ntmps65
  go_wp2_with (first | (go_at_call 80; (with_reducible refine (strings_Contains.calls _ _ _ _ ?Cb A3.out).mono ?_); (case Cb => exact Sh.below HSH.out bl); rintro e w5 ⟨rfl, hb⟩; replace HB := ho hb; clear hb))
  go_ret
  exact ⟨er, bl⟩
 revert H; refine i0 fun c6 H => ?_
 have Dk := eq_true c6
 have Dl := decide_eq_true c6
 try have Gn : (9223372036854775807 < 1 + a0.size) = False := eq_false (Nat.not_lt.2 c6)
 revert H; refine i0 fun c7 H => ?_
 have Ef := eq_true c7
 have Eg := decide_eq_true c7
 try have Gp : (9223372036854775807 < ((⟨#[32]⟩ : ByteArray) ++ a0).size + 1) = False := eq_false (Nat.not_lt.2 c7)
 have c7z : 1 + a0.size + 1 ≤ 9223372036854775807 := by have q_ := c7; rw [ByteArray.size_append] at q_; exact q_
 have c7z0 : (1 + a0.size + 1 ≤ 9223372036854775807) = True := eq_true c7z
 have c7z2 : (9223372036854775807 < 1 + a0.size + 1) = False := eq_false (Nat.not_lt.2 c7z)
 revert H; refine bj fun t280 A8 H => ?_
 obtain rfl := Option.some.inj H
 go_enter Tryz.func65, Tryz.ntmps65
 go_wp2_with (first | (go_at_call 80; (with_reducible refine (strings_Contains.calls _ _ _ _ ?Cb A3.out).mono ?_); (case Cb => exact Sh.below HSH.out bl); rintro e w9 ⟨rfl, hb⟩; replace HB := ho hb; clear hb) | (go_at_call 80; (with_reducible refine (strings_Contains.calls _ _ _ _ ?Cb A8.out).mono ?_); (case Cb => exact Sh.below HSH.out bl); rintro e w10 ⟨rfl, hb⟩; replace HB := ho hb; clear hb))
 go_ret
 exact ⟨er, bl⟩
def df.f (a0 : ByteArray) : Option (Bool) := (fP.f a0).bind fun t281 => (if t281 = true then ((gN.f a0).bind fun t282 => (some (!t282))) else (some false))
theorem df.calls (a0 : ByteArray) (r : Bool) (w : World) (hsh : Sh w) (h : df.f a0 = some r) :
  Calls Tryz.prog 49 #[.string a0] w fun e w' => e = .returned (.bool r) ∧ Below w.heap.size w w' := by
 have HSH := am hsh; clear hsh
 have HB := am (Below.refl w.heap.size w)
 have H := h
 clear h
 unfold df.f at H
 revert H; refine bj fun t281 A2 H => ?_
 replace H := iT H; rcases H with ⟨rfl, H⟩ | ⟨rfl, H⟩
 ·revert H; refine bj fun t282 A4 H => ?_
  obtain rfl := Option.some.inj H
  go_enter Tryz.func49, Tryz.ntmps49
  go_wp2_with (first | ((with_reducible refine c_ 64 ?_); refine gc 64 (some 4) Tryz.func64 (fP.calls _ _ _ A2.out) ?_; rintro e w5 ⟨rfl, hb⟩; refine ⟨_, rfl, ?_⟩; replace HB := ho hb; clear hb) | (go_at_call 65; (with_reducible refine (gN.calls _ _ _ ?Cb A4.out).mono ?_); (case Cb => exact Sh.below HSH.out bl); rintro e w6 ⟨rfl, hb⟩; replace HB := ho hb; clear hb))
  go_ret
  exact ⟨er, bl⟩
 obtain rfl := Option.some.inj H
 go_enter Tryz.func49, Tryz.ntmps49
 go_wp2_with (first | ((with_reducible refine c_ 64 ?_); refine gc 64 (some 4) Tryz.func64 (fP.calls _ _ _ A2.out) ?_; rintro e w7 ⟨rfl, hb⟩; refine ⟨_, rfl, ?_⟩; replace HB := ho hb; clear hb))
 go_ret
 exact ⟨er, bl⟩
def gq.f (a0 : Int) : Option (Bool) := (dZ.f a0 1 3).bind fun t283 => (some t283)
theorem gq.calls (a0 : Int) (r : Bool) (w : World) (h : gq.f a0 = some r) :
  Calls Tryz.prog 50 #[.int .i64 a0] w fun e w' => e = .returned (.bool r) ∧ eT w w' := by
 have H := h
 clear h
 unfold gq.f at H
 revert H; refine bj fun t283 A2 H => ?_
 obtain rfl := Option.some.inj H
 go_enter Tryz.func50, Tryz.ntmps50
 go_wp2_with (first | ((with_reducible refine c_ 28 ?_); refine gc 28 (some 4) Tryz.func28 (dZ.calls _ _ _ _ _ A2.out) ?_; rintro e w' ⟨rfl, ⟨nd, rfl⟩⟩; refine ⟨_, rfl, ?_⟩))
 go_ret
 exact ⟨rs, dr⟩
def fI.f (a0 : Int) : Option (Bool) := (dZ.f a0 (-1000000000000) 1000000000000).bind fun t284 => (some t284)
theorem fI.calls (a0 : Int) (r : Bool) (w : World) (h : fI.f a0 = some r) :
  Calls Tryz.prog 66 #[.int .i64 a0] w fun e w' => e = .returned (.bool r) ∧ eT w w' := by
 have H := h
 clear h
 unfold fI.f at H
 revert H; refine bj fun t284 A2 H => ?_
 obtain rfl := Option.some.inj H
 go_enter Tryz.func66, Tryz.ntmps66
 go_wp2_with (first | ((with_reducible refine c_ 28 ?_); refine gc 28 (some 4) Tryz.func28 (dZ.calls _ _ _ _ _ A2.out) ?_; rintro e w' ⟨rfl, ⟨nd, rfl⟩⟩; refine ⟨_, rfl, ?_⟩))
 go_ret
 exact ⟨rs, dr⟩
def iE.f (a0 : Int) : Option (Bool) := (dZ.f a0 0 1000000).bind fun t285 => (some t285)
theorem iE.calls (a0 : Int) (r : Bool) (w : World) (h : iE.f a0 = some r) :
  Calls Tryz.prog 67 #[.int .i64 a0] w fun e w' => e = .returned (.bool r) ∧ eT w w' := by
 have H := h
 clear h
 unfold iE.f at H
 revert H; refine bj fun t285 A2 H => ?_
 obtain rfl := Option.some.inj H
 go_enter Tryz.func67, Tryz.ntmps67
 go_wp2_with (first | ((with_reducible refine c_ 28 ?_); refine gc 28 (some 4) Tryz.func28 (dZ.calls _ _ _ _ _ A2.out) ?_; rintro e w' ⟨rfl, ⟨nd, rfl⟩⟩; refine ⟨_, rfl, ?_⟩))
 go_ret
 exact ⟨rs, dr⟩
def iP.f (a0 : Int) : Option (Bool) := (dZ.f a0 0 36524).bind fun t286 => (some t286)
theorem iP.calls (a0 : Int) (r : Bool) (w : World) (h : iP.f a0 = some r) :
  Calls Tryz.prog 68 #[.int .i64 a0] w fun e w' => e = .returned (.bool r) ∧ eT w w' := by
 have H := h
 clear h
 unfold iP.f at H
 revert H; refine bj fun t286 A2 H => ?_
 obtain rfl := Option.some.inj H
 go_enter Tryz.func68, Tryz.ntmps68
 go_wp2_with (first | ((with_reducible refine c_ 28 ?_); refine gc 28 (some 4) Tryz.func28 (dZ.calls _ _ _ _ _ A2.out) ?_; rintro e w' ⟨rfl, ⟨nd, rfl⟩⟩; refine ⟨_, rfl, ?_⟩))
 go_ret
 exact ⟨rs, dr⟩
def bE.j0 : Nat → Int → Int → Int → Bool → Option (Bool)
 | 0, _, _, _, _ => none
 | k + 1, x0, x1, x5, x6 => if x6 = true then ((fI.f x1).bind fun t287 => (some t287)) else (if x5 = 3 then ((iE.f x1).bind fun t288 => (some t288)) else (if x5 = 4 then ((iP.f x1).bind fun t289 => (some t289)) else (if x0 = 5 then ((dZ.f x1 0 1).bind fun t290 => (some t290)) else (some false))))
def bE.f (k : Nat) (a0 : Int) (a1 : Int) : Option (Bool) := if a0 = 1 then (bE.j0 k a0 a1 a0 (a0 == 1)) else (bE.j0 k a0 a1 a0 (a0 == 2))
theorem bE.bI : ∀ k, (∀ y0 y1 y2 y3, LeO (bE.j0 k y0 y1 y2 y3) (bE.j0 (k + 1) y0 y1 y2 y3))
 | 0 => fun _ _ _ _ r h => by simp [bE.j0] at h
 | k + 1 => by
  have ih0 := bE.bI k
  ·intro y0 y1 y2 y3
   unfold bE.j0
   exact mo
theorem bE.mono : ∀ a0 a1 k, LeO (bE.f k a0 a1) (bE.f (k + 1) a0 a1) := by
 intro a0 a1 k
 have ih0 := bE.bI k
 unfold bE.f
 exact mo
theorem bE.calls (k : Nat) (a0 : Int) (a1 : Int) (r : Bool) (w : World) (h : bE.f k a0 a1 = some r) :
  Calls Tryz.prog 51 #[.int .i64 a0, .int .i64 a1] w fun e w' => e = .returned (.bool r) ∧ eT w w' := by
 have H := h
 clear h
 unfold bE.f at H
 have Gg := am H; clear H
 go_enter Tryz.func51, Tryz.ntmps51
 go_upto_if 6 with (fail)
 go_cut [6] (fun v6 wc => ∃ (kq : Nat) (x6_2 : Bool), v6 = .bool x6_2 ∧ aa (bE.j0 kq a0 a1 a0 x6_2 = some r) ∧ aa (kq ≤ k) ∧ eT w wc)
 case first =>
  have H := Gg.out
  clear Gg
  revert H; refine iQ (fun Cc Ee H => ?_) fun c4 Cc Ee H => ?_
  ·(first | rw [Cc] | (simp only [bu, bv]; rw [Cc]) | skip)
   have H' := am H; clear H
   go_wp2
   go_meet
   case rel => exact ⟨_, ((a0 == 1)), rs, H', ⟨by first | omega | exact Nat.le_refl _⟩, dr⟩
  (first | rw [Cc] | (simp only [bu, bv]; rw [Cc]) | skip)
  have H' := am H; clear H
  go_wp2
  go_meet
  case rel => exact ⟨_, ((a0 == 2)), rs, H', ⟨by first | omega | exact Nat.le_refl _⟩, dr⟩
 case rest =>
  clear Gg
  obtain ⟨kq, x6_2, rfl, HA, Gu, ⟨mc2, rfl⟩⟩ := hcut
  cases kq with
  | zero => exact absurd HA.out (by simp [bE.j0])
  | succ kj2 =>
   have H := HA.out
   clear HA
   simp only [bE.j0] at H
   replace H := iT H; rcases H with ⟨rfl, H⟩ | ⟨rfl, H⟩
   ·revert H; refine bj fun t287 A6 H => ?_
    obtain rfl := Option.some.inj H
    go_wp2_with (first | ((with_reducible refine c_ 66 ?_); refine gc 66 (some 10) Tryz.func66 (fI.calls _ _ _ A6.out) ?_; rintro e w' ⟨rfl, ⟨nd, rfl⟩⟩; refine ⟨_, rfl, ?_⟩))
    go_ret
    exact ⟨rs, dr⟩
   revert H; refine iQ (fun Ef Eg H => ?_) fun c7 Ef Eg H => ?_
   ·revert H; refine bj fun t288 A8 H => ?_
    obtain rfl := Option.some.inj H
    go_wp2_with (first | ((with_reducible refine c_ 67 ?_); refine gc 67 (some 14) Tryz.func67 (iE.calls _ _ _ A8.out) ?_; rintro e w' ⟨rfl, ⟨nd, rfl⟩⟩; refine ⟨_, rfl, ?_⟩))
    go_ret
    exact ⟨rs, dr⟩
   revert H; refine iQ (fun Eb Gh H => ?_) fun c9 Eb Gh H => ?_
   ·revert H; refine bj fun t289 Gq H => ?_
    obtain rfl := Option.some.inj H
    go_wp2_with (first | ((with_reducible refine c_ 68 ?_); refine gc 68 (some 18) Tryz.func68 (iP.calls _ _ _ Gq.out) ?_; rintro e w' ⟨rfl, ⟨nd, rfl⟩⟩; refine ⟨_, rfl, ?_⟩))
    go_ret
    exact ⟨rs, dr⟩
   revert H; refine iQ (fun Eh Ei H => ?_) fun Ew Eh Ei H => ?_
   ·revert H; refine bj fun t290 Gs H => ?_
    obtain rfl := Option.some.inj H
    go_wp2_with (first | (go_at_call 28; (with_reducible refine (dZ.calls _ _ _ _ _ Gs.out).mono ?_); rintro e w' ⟨rfl, ⟨nd, rfl⟩⟩))
    go_ret
    exact ⟨rs, dr⟩
   obtain rfl := Option.some.inj H
   go_wp2
   go_ret
   exact ⟨rs, dr⟩
def aN.l0 : Nat → List ByteArray → ByteArray → Int → Int → Option (Int)
 | 0, _, _, _, _ => none
 | k + 1, x0, x1, x7, x8 => if x8 < x7 then (if 0 ≤ x8 then (if x8 < (x0.length : Int) then (if x1.toList = (fG ByteArray.empty x0 x8).toList then (some x8) else (aN.l0 k x0 x1 x7 (wrap64 (x8 + 1)))) else (none)) else (none)) else (some (-1))
def aN.f (k : Nat) (l0 : List ByteArray) (a1 : ByteArray) : Option (Int) := aN.l0 k l0 a1 (l0.length : Int) 0
theorem aN.bI : ∀ k, (∀ y0 y1 y2 y3, LeO (aN.l0 k y0 y1 y2 y3) (aN.l0 (k + 1) y0 y1 y2 y3))
 | 0 => fun _ _ _ _ r h => by simp [aN.l0] at h
 | k + 1 => by
  have ih0 := aN.bI k
  ·intro y0 y1 y2 y3
   unfold aN.l0
   exact mo
theorem aN.mono : ∀ a0 a1 k, LeO (aN.f k a0 a1) (aN.f (k + 1) a0 a1) := by
 intro a0 a1 k
 have ih0 := aN.bI k
 unfold aN.f
 exact mo
theorem aN.calls (k : Nat) (A0 : Option Addr) (c0 : Nat) (l0 : List ByteArray) (a1 : ByteArray) (r : Int) (w : World) (hr0 : Kd.C Kd.string w A0 l0.length l0) (hc0 : l0.length ≤ c0) (h : aN.f k l0 a1 = some r) :
  Calls Tryz.prog 69 #[.slice A0 l0.length c0, .string a1] w fun e w' => e = .returned (.int .i64 r) ∧ eT w w' := by
 have Dp := am hr0
 have Eo := am hc0
 clear hr0 hc0
 have H := h
 clear h
 unfold aN.f at H
 have H' := am H; clear H
 go_enter Tryz.func69, Tryz.ntmps69
 go_wp2
 go_loopg [8] k (fun kq v8 w' => ∃ (x8_1 : Int), v8 = .int .i64 x8_1 ∧ aa (aN.l0 kq l0 a1 (l0.length : Int) x8_1 = some r) ∧ aa (kq ≤ k) ∧ eT w w')
 case atStart => exact ⟨(0), rs, H', ⟨Nat.le_refl _⟩, dr⟩
 case round =>
  clear H'
  obtain ⟨x8_1, rfl, HA, Dq, ⟨m1, rfl⟩⟩ := hrel
  cases gk with
  | zero => exact absurd HA.out (by simp [aN.l0])
  | succ k1 =>
   have H := HA.out
   clear HA
   simp only [aN.l0] at H
   revert H; refine iDb (fun Dt H => ?_) fun Dt H => ?_
   ·revert H; refine i1 fun Cc H => ?_
    revert H; refine i1 fun Ep H => ?_
    revert H; refine iQ (fun Dk Dl H => ?_) fun c6 Dk Dl H => ?_
    ·obtain rfl := Option.some.inj H
     have Ce : 0 ≤ (x8_1 : Int) := ode
     have Cf : x8_1 < (l0.length : Int) := ode
     obtain ⟨Ej, e291, Dn⟩ := Kd.eQ Dp.out x8_1 Ce Cf
     cases e291
     replace Ce := eq_true Ce
     replace Cf := eq_true Cf
     go_wp2
     go_ret
     exact ⟨rs, dr⟩
    have H' := am H; clear H
    have Ce : 0 ≤ (x8_1 : Int) := ode
    have Cf : x8_1 < (l0.length : Int) := ode
    obtain ⟨Ej, e291, Dn⟩ := Kd.eQ Dp.out x8_1 Ce Cf
    cases e291
    replace Ce := eq_true Ce
    replace Cf := eq_true Cf
    go_wp2
    go_roundg k1
    case measure => have := Dq.out; omega
    case rel => exact ⟨(wrap64 (x8_1 + 1)), rs, H', ⟨by have := Dq.out; omega⟩, dr⟩
   obtain rfl := Option.some.inj H
   go_wp2
   go_ret
   exact ⟨rs, dr⟩
def ay.f (k : Nat) (l0 : List ByteArray) (a1 : ByteArray) : Option (Bool) := (aN.f k l0 a1).bind fun t292 => (some (decide (t292 ≥ 0)))
theorem ay.mono : ∀ a0 a1 k, LeO (ay.f k a0 a1) (ay.f (k + 1) a0 a1) := by
 intro a0 a1 k
 unfold ay.f
 repeat' (with_reducible first | exact aN.mono .. | exact LeO.refl _ | exact LeO.none _ | refine LeO.ite ?_ ?_ | refine LeO.bind ?_ (fun _ => ?_))
theorem ay.calls (k : Nat) (A0 : Option Addr) (c0 : Nat) (l0 : List ByteArray) (a1 : ByteArray) (r : Bool) (w : World) (hr0 : Kd.C Kd.string w A0 l0.length l0) (hc0 : l0.length ≤ c0) (h : ay.f k l0 a1 = some r) :
  Calls Tryz.prog 52 #[.slice A0 l0.length c0, .string a1] w fun e w' => e = .returned (.bool r) ∧ eT w w' := by
 have Dp := am hr0
 have Eo := am hc0
 clear hr0 hc0
 have H := h
 clear h
 unfold ay.f at H
 revert H; refine bj fun t292 A3 H => ?_
 obtain rfl := Option.some.inj H
 go_enter Tryz.func52, Tryz.ntmps52
 go_wp2_with (first | ((with_reducible refine c_ 69 ?_); refine gc 69 (some 7) Tryz.func69 (aN.calls _ _ _ _ _ _ _ ?Cb ?Dh A3.out) ?_; (case Cb => repeat (first | exact Dp.out | (with_reducible refine Kd.fV ?_ _) | (with_reducible refine Kd.fU ?_ _) | (with_reducible refine Kd.gU ?_))); (case Dh => exact Eo.out); rintro e w' ⟨rfl, ⟨nd, rfl⟩⟩; refine ⟨_, rfl, ?_⟩))
 go_ret
 exact ⟨rs, dr⟩
mutual
def aW.j0 : Nat → List (S88) → Int → Int → Bool → Option (Int × ByteArray × ByteArray × Int × Int × Int × (List (dS)) × Int × Int × Bool)
 | 0, _, _, _, _ => none
 | k + 1, x0, x1, x2, x29 => if x29 = true then (some (0, (⟨#[]⟩ : ByteArray), (⟨#[]⟩ : ByteArray), 0, 0, 0, ([] : List (dS)), 0, 0, false)) else (if 0 ≤ x1 then (if x1 < (x0.length : Int) then (aW.l0 k x0 (wrap64 (x1 + 1)) x2 ((av x0 x1).f4) 0 ((av x0 x1).f0) ((av x0 x1).f1) ((av x0 x1).f2) ((av x0 x1).f3) ((av x0 x1).f4) x1 ([] : List (dS)) 1) else (none)) else (none))
def aW.l0 : Nat → List (S88) → Int → Int → Int → Int → Int → ByteArray → ByteArray → Int → Int → Int → List (dS) → Int → Option (Int × ByteArray × ByteArray × Int × Int × Int × (List (dS)) × Int × Int × Bool)
 | 0, _, _, _, _, _, _, _, _, _, _, _, _, _ => none
 | k + 1, x0, x1, x2, x41, x42, x298000, x298001, x298002, x298003, x298004, x298005, x298006, x298007 => if x42 < x41 then ((aW.f k x0 x1 (wrap64 (x2 + 1))).bind fun bt298 => (if bt298.2.2.2.2.2.2.2.2.2 = true then (if x298006.length < 1466015503701 then (aW.l0 k x0 bt298.2.2.2.2.2.2.2.2.1 x2 x41 (wrap64 (x42 + 1)) x298000 x298001 x298002 x298003 x298004 x298005 (x298006 ++ [(⟨(⟨bt298.1, bt298.2.1, bt298.2.2.1, bt298.2.2.2.1, bt298.2.2.2.2.1⟩ : S88), bt298.2.2.2.2.2.1, bt298.2.2.2.2.2.2.1, bt298.2.2.2.2.2.2.2.1⟩ : dS)]) (mx x298007 (wrap64 (bt298.2.2.2.2.2.2.2.1 + 1)))) else (none)) else (some (0, (⟨#[]⟩ : ByteArray), (⟨#[]⟩ : ByteArray), 0, 0, 0, ([] : List (dS)), 0, 0, false)))) else (some (x298000, x298001, x298002, x298003, x298004, x298005, x298006, x298007, x1, true))
def aW.f : Nat → List (S88) → Int → Int → Option (Int × ByteArray × ByteArray × Int × Int × Int × (List (dS)) × Int × Int × Bool)
 | 0, _, _, _ => none
 | k + 1, l0, a1, a2 => if a1 ≥ (l0.length : Int) then (aW.j0 k l0 a1 a2 true) else (if a2 > 20 then (aW.j0 k l0 a1 a2 true) else (if 0 ≤ a1 then (if a1 < (l0.length : Int) then ((dZ.f ((av l0 a1).f4) 0 150).bind fun t295 => (aW.j0 k l0 a1 a2 (!t295))) else (none)) else (none)))
end
theorem aW.bI : ∀ k, (∀ y0 y1 y2, LeO (aW.f k y0 y1 y2) (aW.f (k + 1) y0 y1 y2)) ∧ (∀ y0 y1 y2 y3, LeO (aW.j0 k y0 y1 y2 y3) (aW.j0 (k + 1) y0 y1 y2 y3)) ∧ (∀ y0 y1 y2 y3 y4 y5 y6 y7 y8 y9 y10 y11 y12, LeO (aW.l0 k y0 y1 y2 y3 y4 y5 y6 y7 y8 y9 y10 y11 y12) (aW.l0 (k + 1) y0 y1 y2 y3 y4 y5 y6 y7 y8 y9 y10 y11 y12))
 | 0 => ⟨fun _ _ _ r h => by simp [aW.f] at h, fun _ _ _ _ r h => by simp [aW.j0] at h, fun _ _ _ _ _ _ _ _ _ _ _ _ _ r h => by simp [aW.l0] at h⟩
 | k + 1 => by
  obtain ⟨ih0, ih1, ih2⟩ := aW.bI k
  refine ⟨?_, ?_, ?_⟩
  ·intro y0 y1 y2
   unfold aW.f
   repeat' (with_reducible first | exact ih0 .. | exact ih1 .. | exact ih2 .. | exact LeO.refl _ | exact LeO.none _ | refine LeO.ite ?_ ?_ | refine LeO.bind ?_ (fun _ => ?_))
  ·intro y0 y1 y2 y3
   unfold aW.j0
   repeat' (with_reducible first | exact ih0 .. | exact ih1 .. | exact ih2 .. | exact LeO.refl _ | exact LeO.none _ | refine LeO.ite ?_ ?_ | refine LeO.bind ?_ (fun _ => ?_))
  intro y0 y1 y2 y3 y4 y5 y6 y7 y8 y9 y10 y11 y12
  unfold aW.l0
  repeat' (with_reducible first | exact ih0 .. | exact ih1 .. | exact ih2 .. | exact LeO.refl _ | exact LeO.none _ | refine LeO.ite ?_ ?_ | refine LeO.bind ?_ (fun _ => ?_))
theorem aW.mono : ∀ a0 a1 a2 k, LeO (aW.f k a0 a1 a2) (aW.f (k + 1) a0 a1 a2) := by
 intro a0 a1 a2 k
 obtain ⟨ih0, ih1, ih2⟩ := aW.bI k
 exact ih0 a0 a1 a2
theorem aW.calls (k : Nat) : ∀ (A0 : Option Addr) (c0 : Nat) (l0 : List (S88)) (a1 : Int) (a2 : Int) (r1 : Int) (r2 : ByteArray) (r3 : ByteArray) (r4 : Int) (r5 : Int) (r6 : Int) (r7 : List (dS)) (r8 : Int) (r9 : Int) (r10 : Bool) (w : World) (hr0 : Kd.C k88 w A0 l0.length l0) (hc0 : l0.length ≤ c0) (h : aW.f k l0 a1 a2 = some (r1, r2, r3, r4, r5, r6, r7, r8, r9, r10)),
  Calls Tryz.prog 81 #[.slice A0 l0.length c0, .int .i64 a1, .int .i64 a2] w fun e w' => ∃ v6_ : Value, e = .returned (.tuple #[.agg #[.int .i64 r1, .string r2, .string r3, .int .i64 r4, .int .i64 r5, .int .i64 r6, v6_, .int .i64 r8], .int .i64 r9, .bool r10]) ∧ Kd.R jo 105 w' w.heap.size (fun _ => True) v6_ r7 ∧ Below w.heap.size w w' := by
 induction k using Nat.strongRecOn with
 | _ k ih =>
 intro A0 c0 l0 a1 a2 r1 r2 r3 r4 r5 r6 r7 r8 r9 r10 w hr0 hc0 h
 cases k with
 | zero => exact absurd h (by simp [aW.f])
 | succ k =>
 simp only [aW.f] at h
 have hu105 := Tryz.underlying105
 have hu88 := Tryz.underlying88
 have Ey := am hr0
 have Gg := am hc0
 clear hr0 hc0
 have HB := am (Below.refl w.heap.size w)
 have H := h
 clear h
 have Ib := am H; clear H
 go_enter Tryz.func81, Tryz.ntmps81
 go_upto_region 1 with (first | ((with_reducible refine g_ 6 ?_); refine bx 6 #[.int .i64 0, .string (⟨#[]⟩ : ByteArray), .string (⟨#[]⟩ : ByteArray), .int .i64 0, .int .i64 0, .int .i64 0, .slice none 0 0, .int .i64 0] 105 ?_; intro Di hg w5 hbox hb; have Cf := am hbox; have Gh := am (bsz hg : w.heap.size ≤ Di); have Iz := Gh; replace HB := ho hb; clear hb hbox hg))
 (try simp only [Act.put, z1, z2, z3])
 go_cut [29] (fun v29 wc => ∃ (kq : Nat) (x29_3 : Bool), v29 = .bool x29_3 ∧ aa (aW.j0 kq l0 a1 a2 x29_3 = some (r1, r2, r3, r4, r5, r6, r7, r8, r9, r10)) ∧ aa (kq ≤ k) ∧ aa (wc.heap[Di]? = some (.cells #[.int .i64 0, .string (⟨#[]⟩ : ByteArray), .string (⟨#[]⟩ : ByteArray), .int .i64 0, .int .i64 0, .int .i64 0, (.slice none 0 0), .int .i64 0] 105 (0, 0))) ∧ aa (Below w.heap.size w wc))
 case first =>
  have H := Ib.out
  clear Ib
  revert H; refine iDb (fun Ej H => ?_) fun Ej H => ?_
  ·(first | rw [Ej] | (simp only [bu, bv]; rw [Ej]) | skip)
   have H' := am H; clear H
   go_wp2
   go_meet
   case rel => exact ⟨_, (true), rs, H', ⟨by first | omega | exact Nat.le_refl _⟩, ⟨bk Cf.out⟩, ⟨bl⟩⟩
  (first | rw [Ej] | (simp only [bu, bv]; rw [Ej]) | skip)
  revert H; refine iDb (fun Ic H => ?_) fun Ic H => ?_
  ·have H' := am H; clear H
   go_wp2
   go_meet
   case rel => exact ⟨_, (true), rs, H', ⟨by first | omega | exact Nat.le_refl _⟩, ⟨bk Cf.out⟩, ⟨bl⟩⟩
  revert H; refine i1 fun Jx H => ?_
  revert H; refine i1 fun Jy H => ?_
  revert H; refine bj fun t295 Jz H => ?_
  have H' := am H; clear H
  have Ez : 0 ≤ (a1 : Int) := ode
  have Ga : a1 < (l0.length : Int) := ode
  obtain ⟨Ja, e294, Ee, Ef, Eg, Eh, Ei⟩ := ko Ey.out a1 Ez Ga
  cases e294
  obtain ⟨Ee, Ef, Eg, Eh, Ei⟩ := hb5 HB.out Ee Ef Eg Eh Ei
  replace Ez := eq_true Ez
  replace Ga := eq_true Ga
  go_wp2_with (first | (go_at_call 28; (with_reducible refine (dZ.calls _ _ _ _ _ Jz.out).mono ?_); rintro e w' ⟨rfl, ⟨nd, rfl⟩⟩))
  go_meet
  case rel => exact ⟨_, (!t295), rs, H', ⟨by first | omega | exact Nat.le_refl _⟩, ⟨bk Cf.out⟩, ⟨bl⟩⟩
 case rest =>
  clear Ib
  obtain ⟨kq, x29_3, rfl, HA, Gv, Cf, HB⟩ := hcut
  cases kq with
  | zero => exact absurd HA.out (by simp [aW.j0])
  | succ kj3 =>
   have H := HA.out
   clear HA
   simp only [aW.j0] at H
   replace H := iT H; rcases H with ⟨rfl, H⟩ | ⟨rfl, H⟩
   ·simp only [Option.some.injEq, Prod.mk.injEq] at H
    obtain ⟨rfl, rfl, rfl, rfl, rfl, rfl, rfl, rfl, rfl, rfl⟩ := H
    have Kj := dD Cf.out
    go_wp2
    refine bodyPost_ret (kN rfl _ _ Di 105 #[.int .i64 0, .string (⟨#[]⟩ : ByteArray), .string (⟨#[]⟩ : ByteArray), .int .i64 0, .int .i64 0, .int .i64 0, .slice none 0 0, .int .i64 0] (0, 0) _ rfl (bp Cf.out) Tryz.underlying105 rfl (by kernel_rfl)) rfl ?_
    exact ⟨_, er, by first | exact Kd.je _ _ _ _ _ | exact Kd.jY _ _ _ _ _ | exact Kd.jU _ _ _ _ _ | exact Kd.jX _ _ _ _ _ | exact Kd.jV _ _ _ _ _, bl⟩
   revert H; refine i1 fun Gi H => ?_
   revert H; refine i1 fun Gj H => ?_
   have H' := am H; clear H
   have Eo : 0 ≤ (a1 : Int) := ode
   have Ep : a1 < (l0.length : Int) := ode
   obtain ⟨Jb, e296, Dy, Dz, Ea, Eb, Ec⟩ := ko Ey.out a1 Eo Ep
   cases e296
   obtain ⟨Dy, Dz, Ea, Eb, Ec⟩ := hb5 HB.out Dy Dz Ea Eb Ec
   replace Eo := eq_true Eo
   replace Ep := eq_true Ep
   go_wp2_with (first | ((with_reducible refine g_ 9 ?_); refine bx 9 #[.int .i64 0, .string (⟨#[]⟩ : ByteArray), .string (⟨#[]⟩ : ByteArray), .int .i64 0, .int .i64 0, .int .i64 0, .slice none 0 0, .int .i64 0] 105 ?_; intro Ci hg w15 hbox hb; have Ce := am hbox; have Gk := am (bsz hg : w.heap.size ≤ Ci); have Jc := Gk; have Cm := no hg Cf; have Dk := am Cm.out.symm; replace Cf := bo Cf hb; replace HB := ho hb; clear hb hbox hg; have Jd := Dk.out; have Je := Cm.out; have Ka := dD Ce.out))
   go_loopg [1, 42] kj3 (fun kq v1 v42 w' => ∃ (x1_2 : Int) (x42_2 : Int) (x294000_2 : Int) (x294001_2 : ByteArray) (x294002_2 : ByteArray) (x294003_2 : Int) (x294004_2 : Int) (x294005_2 : Int) (x294007_2 : Int) (x298006_2 : List (dS)) (x298007_2 : Int) (u298006 : Value), v1 = .int .i64 x1_2 ∧ v42 = .int .i64 x42_2 ∧ aa (aW.l0 kq l0 x1_2 a2 ((av l0 a1).f4) x42_2 ((av l0 a1).f0) ((av l0 a1).f1) ((av l0 a1).f2) ((av l0 a1).f3) ((av l0 a1).f4) a1 x298006_2 x298007_2 = some (r1, r2, r3, r4, r5, r6, r7, r8, r9, r10)) ∧ aa (kq ≤ kj3) ∧ aa (Kd.R jo 105 w' w.heap.size (fun k_ => k_ ≠ Di ∧ k_ ≠ Ci) u298006 x298006_2) ∧ aa (w'.heap[Di]? = some (.cells #[.int .i64 x294000_2, .string x294001_2, .string x294002_2, .int .i64 x294003_2, .int .i64 x294004_2, .int .i64 x294005_2, (.slice none 0 0), .int .i64 x294007_2] 105 (0, 0))) ∧ aa (w'.heap[Ci]? = some (.cells #[.int .i64 ((av l0 a1).f0), .string ((av l0 a1).f1), .string ((av l0 a1).f2), .int .i64 ((av l0 a1).f3), .int .i64 ((av l0 a1).f4), .int .i64 a1, u298006, .int .i64 x298007_2] 105 (0, 0))) ∧ aa (Below w.heap.size w w'))
   case atStart => exact ⟨(wrap64 (a1 + 1)), (0), (0), ((⟨#[]⟩ : ByteArray)), ((⟨#[]⟩ : ByteArray)), (0), (0), (0), (0), (([] : List (dS))), (1), (.slice none 0 0), rs, rs, H', ⟨Nat.le_refl _⟩, ⟨by first | exact Kd.je _ _ _ _ _ | exact Kd.jY _ _ _ _ _ | exact Kd.jU _ _ _ _ _ | exact Kd.jX _ _ _ _ _ | exact Kd.jV _ _ _ _ _⟩, ⟨bf Cf.out Cm.out⟩, ⟨bp Ce.out⟩, ⟨bl⟩⟩
   case round =>
    clear H'
    try clear Gi; try clear Gj; try clear Ka; try clear Dy; try clear Dz; try clear Ea; try clear Eb; try clear Ec; try clear Eo; try clear Ep
    obtain ⟨x1_2, x42_2, x294000_2, x294001_2, x294002_2, x294003_2, x294004_2, x294005_2, x294007_2, x298006_2, x298007_2, u298006, rfl, rfl, HA, Gw, Cc, Cf, Ce, HB⟩ := hrel
    cases gk with
    | zero => exact absurd HA.out (by simp [aW.l0])
    | succ k2 =>
     have H := HA.out
     clear HA
     simp only [aW.l0] at H
     revert H; refine iDb (fun Gl H => ?_) fun Gl H => ?_
     ·replace H := bi H; obtain ⟨⟨t298, t299, t300, t301, t302, t303, t304, t307, t308, t309⟩, Ie, H⟩ := H; dsimp only at H
      replace H := iT H; rcases H with ⟨rfl, H⟩ | ⟨rfl, H⟩
      ·revert H; refine i0 fun Jf H => ?_
       have LMc21 := am Jf; clear Jf
       generalize h_ : ((x298006_2 ++ [(⟨(⟨t298, t299, t300, t301, t302⟩ : S88), t303, t304, t307⟩ : dS)]) : List (dS)) = Gf at H
       have Gm := am h_.symm; clear h_; try rw [Option.bind_some] at H
       obtain ⟨ji22, hji22⟩ : ∃ j_ : Int, (mx x298007_2 (wrap64 (t307 + 1))) = j_ := ⟨_, rfl⟩
       replace H : (aW.l0 k2 l0 t308 a2 ((av l0 a1).f4) (wrap64 (x42_2 + 1)) ((av l0 a1).f0) ((av l0 a1).f1) ((av l0 a1).f2) ((av l0 a1).f3) ((av l0 a1).f4) a1 Gf ji22) = some (r1, r2, r3, r4, r5, r6, r7, r8, r9, r10) := by first | (rw [hji22] at H; exact H) | (simp only [hji22] at H ⊢; exact H)
       (try rw [hji22] at Ie)
       have hji22_ : (if x298007_2 < (wrap64 (t307 + 1)) then (wrap64 (t307 + 1)) else x298007_2) = ji22 := hji22
       have H' := am H; clear H
       try go_wp2_with (first | ((with_reducible refine c_ 81 ?_); refine gc 81 (some 49) Tryz.func81 (ih k2 (by have := Gv.out; have := Gw.out; omega) _ _ l0 x1_2 (wrap64 (a2 + 1)) t298 t299 t300 t301 t302 t303 t304 t307 t308 true _ ?Dv ?Dw Ie.out) ?_; (case Dv => exact cb Ey.out); (case Dw => exact Gg.out); rintro e w23 ⟨v305, rfl, ho0, hb⟩; refine ⟨_, rfl, ?_⟩; have Dj := am (Kd.bz (Kd.mW (Kd.mW (Kd.bW ho0 (Kd.ek (kr Cc.out))) (g := Di) (o := .cells #[.int .i64 x294000_2, .string x294001_2, .string x294002_2, .int .i64 x294003_2, .int .i64 x294004_2, .int .i64 x294005_2, .slice none 0 0, .int .i64 x294007_2] 105 (0, 0)) (bk Cf.out)) (g := Ci) (o := .cells #[.int .i64 ((av l0 a1).f0), .string ((av l0 a1).f1), .string ((av l0 a1).f2), .int .i64 ((av l0 a1).f3), .int .i64 ((av l0 a1).f4), .int .i64 a1, u298006, .int .i64 x298007_2] 105 (0, 0)) (bk Ce.out)) (az bl)); replace Cc := am (Kd.eY (kr Cc.out) (Kd.bO ho0) hb); refine r2_ hb Cf Ce ?_; clear Cf Ce; intro Cf Ce; replace HB := ho hb; clear hb ho0) | ((with_reducible refine g_ 10 ?_); refine bx 10 #[.int .i64 0, .string (⟨#[]⟩ : ByteArray), .string (⟨#[]⟩ : ByteArray), .int .i64 0, .int .i64 0, .int .i64 0, .slice none 0 0, .int .i64 0] 105 ?_; intro Cb hg w24 hbox hb; replace Cc := am (Kd.gP (Kd.jc (kr Cc.out) Cb (Nat.le_of_eq hg.symm)) hb); replace Dj := am (Kd.gP (Kd.jc (kr Dj.out) Cb (Nat.le_of_eq hg.symm)) hb); have Cj := am hbox; have Ek := am (bsz hg : w.heap.size ≤ Cb); have Gn := Ek; have Df := no hg Cf; have Dt := am Df.out.symm; replace Cf := bo Cf hb; have Cn := no hg Ce; have Cd := am Cn.out.symm; replace Ce := bo Ce hb; replace HB := ho hb; clear hb hbox hg; have Jg := Dt.out; have Jh := Df.out; have Ji := Cd.out; have Jj := Cn.out; have Kk := dD Cj.out; obtain ⟨Dn, Dp, Ig⟩ := Kd.aI Dj.out; subst Ig))
       have n0_ : aa (Kd.R jo 105 ((((((((w24.setCell ⟨Cb, 0, none⟩ (.int .i64 t298)).setCell ⟨Cb, 1, none⟩ (.string t299)).setCell ⟨Cb, 2, none⟩ (.string t300)).setCell ⟨Cb, 3, none⟩ (.int .i64 t301)).setCell ⟨Cb, 4, none⟩ (.int .i64 t302)).setCell ⟨Cb, 5, none⟩ (.int .i64 t303)).setCell ⟨Cb, 6, none⟩ (.slice Dn t304.length Dp)).setCell ⟨Cb, 7, none⟩ (.int .i64 t307)) w.heap.size (fun k_ => some k_ ≠ (.slice Dn t304.length Dp : Value).ownBlock ∧ k_ ≠ Di ∧ k_ ≠ Ci ∧ k_ ≠ Cb) u298006 x298006_2) := ⟨by exact Kd.ax (eU (Kd.ax Cc.out (fun k_ hk => (⟨hk, hk.2⟩ : _ ∧ k_ ≠ Cb)))) (fun _ hk => ⟨hk.1.1.2, ⟨hk.1.1.1.1, ⟨hk.1.1.1.2, hk.1.2⟩⟩⟩)⟩
       have n1_ : aa (Kd.R jo 105 ((((((((w24.setCell ⟨Cb, 0, none⟩ (.int .i64 t298)).setCell ⟨Cb, 1, none⟩ (.string t299)).setCell ⟨Cb, 2, none⟩ (.string t300)).setCell ⟨Cb, 3, none⟩ (.int .i64 t301)).setCell ⟨Cb, 4, none⟩ (.int .i64 t302)).setCell ⟨Cb, 5, none⟩ (.int .i64 t303)).setCell ⟨Cb, 6, none⟩ (.slice Dn t304.length Dp)).setCell ⟨Cb, 7, none⟩ (.int .i64 t307)) w.heap.size (fun k_ => some k_ ≠ (u298006 : Value).ownBlock ∧ k_ ≠ Di ∧ k_ ≠ Ci ∧ k_ ≠ Cb) (.slice Dn t304.length Dp) t304) := ⟨by exact Kd.ax (eU (Kd.ax Dj.out (fun k_ hk => (⟨hk, hk.2⟩ : _ ∧ k_ ≠ Cb)))) (fun _ hk => ⟨hk.1.1.1.1.2, ⟨hk.1.1.1.2, ⟨hk.1.1.2, hk.1.2⟩⟩⟩)⟩
       have n2_ : aa (((((((((w24.setCell ⟨Cb, 0, none⟩ (.int .i64 t298)).setCell ⟨Cb, 1, none⟩ (.string t299)).setCell ⟨Cb, 2, none⟩ (.string t300)).setCell ⟨Cb, 3, none⟩ (.int .i64 t301)).setCell ⟨Cb, 4, none⟩ (.int .i64 t302)).setCell ⟨Cb, 5, none⟩ (.int .i64 t303)).setCell ⟨Cb, 6, none⟩ (.slice Dn t304.length Dp)).setCell ⟨Cb, 7, none⟩ (.int .i64 t307)).heap[Di]? = some (.cells #[.int .i64 x294000_2, .string x294001_2, .string x294002_2, .int .i64 x294003_2, .int .i64 x294004_2, .int .i64 x294005_2, .slice none 0 0, .int .i64 x294007_2] 105 (0, 0))) := ⟨bf Cf.out Df.out⟩
       have n3_ : aa (((((((((w24.setCell ⟨Cb, 0, none⟩ (.int .i64 t298)).setCell ⟨Cb, 1, none⟩ (.string t299)).setCell ⟨Cb, 2, none⟩ (.string t300)).setCell ⟨Cb, 3, none⟩ (.int .i64 t301)).setCell ⟨Cb, 4, none⟩ (.int .i64 t302)).setCell ⟨Cb, 5, none⟩ (.int .i64 t303)).setCell ⟨Cb, 6, none⟩ (.slice Dn t304.length Dp)).setCell ⟨Cb, 7, none⟩ (.int .i64 t307)).heap[Ci]? = some (.cells #[.int .i64 ((av l0 a1).f0), .string ((av l0 a1).f1), .string ((av l0 a1).f2), .int .i64 ((av l0 a1).f3), .int .i64 ((av l0 a1).f4), .int .i64 a1, u298006, .int .i64 x298007_2] 105 (0, 0))) := ⟨bf Ce.out Cn.out⟩
       have n4_ : aa (((((((((w24.setCell ⟨Cb, 0, none⟩ (.int .i64 t298)).setCell ⟨Cb, 1, none⟩ (.string t299)).setCell ⟨Cb, 2, none⟩ (.string t300)).setCell ⟨Cb, 3, none⟩ (.int .i64 t301)).setCell ⟨Cb, 4, none⟩ (.int .i64 t302)).setCell ⟨Cb, 5, none⟩ (.int .i64 t303)).setCell ⟨Cb, 6, none⟩ (.slice Dn t304.length Dp)).setCell ⟨Cb, 7, none⟩ (.int .i64 t307)).heap[Cb]? = some (.cells #[.int .i64 t298, .string t299, .string t300, .int .i64 t301, .int .i64 t302, .int .i64 t303, .slice Dn t304.length Dp, .int .i64 t307] 105 (0, 0))) := ⟨bp Cj.out⟩
       have n5_ : aa (Below w.heap.size w ((((((((w24.setCell ⟨Cb, 0, none⟩ (.int .i64 t298)).setCell ⟨Cb, 1, none⟩ (.string t299)).setCell ⟨Cb, 2, none⟩ (.string t300)).setCell ⟨Cb, 3, none⟩ (.int .i64 t301)).setCell ⟨Cb, 4, none⟩ (.int .i64 t302)).setCell ⟨Cb, 5, none⟩ (.int .i64 t303)).setCell ⟨Cb, 6, none⟩ (.slice Dn t304.length Dp)).setCell ⟨Cb, 7, none⟩ (.int .i64 t307))) := ⟨bl⟩
       (try clear Cc)
       (try clear Dj)
       (try clear Cf)
       (try clear Ce)
       (try clear Cj)
       (try clear HB)
       generalize ((((((((w24.setCell ⟨Cb, 0, none⟩ (.int .i64 t298)).setCell ⟨Cb, 1, none⟩ (.string t299)).setCell ⟨Cb, 2, none⟩ (.string t300)).setCell ⟨Cb, 3, none⟩ (.int .i64 t301)).setCell ⟨Cb, 4, none⟩ (.int .i64 t302)).setCell ⟨Cb, 5, none⟩ (.int .i64 t303)).setCell ⟨Cb, 6, none⟩ (.slice Dn t304.length Dp)).setCell ⟨Cb, 7, none⟩ (.int .i64 t307)) = w29 at n0_ n1_ n2_ n3_ n4_ n5_ ⊢
       have Cc := n0_
       have Dj := n1_
       have Cf := n2_
       have Ce := n3_
       have Cj := n4_
       have HB := n5_
       clear n0_ n1_ n2_ n3_ n4_ n5_
       replace Cc := am (Kd.dx Cc.out); replace Dj := am (Kd.dx Dj.out); replace Cf := am (bB Cf.out); replace Ce := am (bB Ce.out); replace Cj := am (bB Cj.out); replace HB := am (bg HB.out)
       refine startL_ (n := 17) (S := Sb8b8 Ci (.int .i64 ((av l0 a1).f0)) (.string ((av l0 a1).f1)) (.string ((av l0 a1).f2)) (.int .i64 ((av l0 a1).f3)) (.int .i64 ((av l0 a1).f4)) (.int .i64 a1) (u298006) (.int .i64 x298007_2) Cb (.int .i64 t298) (.string t299) (.string t300) (.int .i64 t301) (.int .i64 t302) (.int .i64 t303) (.slice Dn t304.length Dp) (.int .i64 t307)) (S2 := fun w' => w'.cell? ⟨Cb, 0, none⟩ = some (.int .i64 t298) ∧ w'.cell? ⟨Cb, 1, none⟩ = some (.string t299) ∧ w'.cell? ⟨Cb, 2, none⟩ = some (.string t300) ∧ w'.cell? ⟨Cb, 3, none⟩ = some (.int .i64 t301) ∧ w'.cell? ⟨Cb, 4, none⟩ = some (.int .i64 t302) ∧ w'.cell? ⟨Cb, 5, none⟩ = some (.int .i64 t303) ∧ w'.cell? ⟨Cb, 6, none⟩ = some (.slice Dn t304.length Dp) ∧ w'.cell? ⟨Cb, 7, none⟩ = some (.int .i64 t307)) (ds := [13, 15]) #[F_, F_, F_, F_, F_, F_, F_, F_, F_, F_, F_, F_, F_, F_, F_, F_, F_] (by kernel_rfl) rfl rfl (ol Ce.out Cj.out) (fun hHeld => ?_)
       generalize w29.drew = w30 at Cc Dj Cf Ce Cj HB hHeld ⊢
       refine pvL 0 56 ?_
       refine pvL 5 61 ?_
       refine pvL 7 63 ?_
       refine pvL 11 67 ?_
       refine uo 1 57 hHeld ?_
       refine uo 2 58 hHeld ?_
       refine uo 6 62 hHeld ?_
       refine take2_ (i := 8) (N := some 64) (v := ?_) (a' := ?_) #[T_, T_, T_, F_, F_, T_, T_, T_, T_, F_, F_, T_, F_, F_, F_, F_, F_] rfl rfl (by kernel_rfl) (fun _ _ _ h => h) (Or.inl ⟨by rfl, ?_⟩) ⟨hHeld.2.2.2.2.2.2.2.2.1, hHeld.2.2.2.2.2.2.2.2.2.1, hHeld.2.2.2.2.2.2.2.2.2.2.1, hHeld.2.2.2.2.2.2.2.2.2.2.2.1, hHeld.2.2.2.2.2.2.2.2.2.2.2.2.1, hHeld.2.2.2.2.2.2.2.2.2.2.2.2.2.1, hHeld.2.2.2.2.2.2.2.2.2.2.2.2.2.2.1, hHeld.2.2.2.2.2.2.2.2.2.2.2.2.2.2.2⟩ ?_ ?_
       rotate_left
       ·rintro w' ⟨s0, s1, s2, s3, s4, s5, s6, s7⟩
        go_simp
        with_reducible rfl
       rotate_left
       ·simp only [Act.put, z1, z2, z3, bu, bv]
        rfl
       refine pvL 9 65 ?_
       refine pvL 10 66 ?_
       refine oneL_ (i := 3) (N := some 59) #[T_, T_, T_, T_, F_, T_, T_, T_, T_, T_, T_, T_, F_, F_, F_, F_, F_] rfl rfl (by kernel_rfl) (by decide) (fun _ h_ => ⟨h_.2.2.2.2.2.2.2.2.1, h_.2.2.2.2.2.2.2.2.2.1, h_.2.2.2.2.2.2.2.2.2.2.1, h_.2.2.2.2.2.2.2.2.2.2.2.1, h_.2.2.2.2.2.2.2.2.2.2.2.2.1, h_.2.2.2.2.2.2.2.2.2.2.2.2.2.1, h_.2.2.2.2.2.2.2.2.2.2.2.2.2.2.1, h_.2.2.2.2.2.2.2.2.2.2.2.2.2.2.2⟩) (fun K hK => ?_)
       refine qI (w1 := ?_) (v := ?_) (by rfl) rfl ?_ ?_
       rotate_left 2
       ·go_simp
        constructor
        ·rfl
        rfl
       refine hK.out _ _ ⟨(ae (dB Ce.out _) 0).trans rfl, (ae (dB Ce.out _) 1).trans rfl, (ae (dB Ce.out _) 2).trans rfl, (ae (dB Ce.out _) 3).trans rfl, (ae (dB Ce.out _) 4).trans rfl, (ae (dB Ce.out _) 5).trans rfl, (ae (dB Ce.out _) 6).trans rfl, (ae (dB Ce.out _) 7).trans rfl, (ae (dB Cj.out _) 0).trans rfl, (ae (dB Cj.out _) 1).trans rfl, (ae (dB Cj.out _) 2).trans rfl, (ae (dB Cj.out _) 3).trans rfl, (ae (dB Cj.out _) 4).trans rfl, (ae (dB Cj.out _) 5).trans rfl, (ae (dB Cj.out _) 6).trans rfl, (ae (dB Cj.out _) 7).trans rfl⟩ (fun hHeld => ?_)
       clear hK K
       refine uS (a' := ?_) ?_ ?_
       rotate_left
       ·show Act.put _ (some 59) _ = _
        simp only [Act.put, z1, z2, z3, bu, bv]
        rfl
       refine oneL_ (i := 4) (N := some 60) #[T_, T_, T_, T_, T_, T_, T_, T_, T_, T_, T_, T_, F_, F_, F_, F_, F_] rfl rfl (by kernel_rfl) (by decide) (fun _ h_ => ⟨h_.2.2.2.2.2.2.2.2.1, h_.2.2.2.2.2.2.2.2.2.1, h_.2.2.2.2.2.2.2.2.2.2.1, h_.2.2.2.2.2.2.2.2.2.2.2.1, h_.2.2.2.2.2.2.2.2.2.2.2.2.1, h_.2.2.2.2.2.2.2.2.2.2.2.2.2.1, h_.2.2.2.2.2.2.2.2.2.2.2.2.2.2.1, h_.2.2.2.2.2.2.2.2.2.2.2.2.2.2.2⟩) (fun K hK => ?_)
       refine Kd.ku jo (w0 := w) w.heap.size (by rfl) (.tmp 57) (.tmp 59) 103 105 (.agg #[(.int .i64 0), (.string ⟨#[]⟩), (.string ⟨#[]⟩), (.int .i64 0), (.int .i64 0), (.int .i64 0), (.slice none 0 0), (.int .i64 0)]) 96 rfl Tryz.underlying103 info105 rfl (by decide) (by omega) u298006 x298006_2 (⟨(⟨t298, t299, t300, t301, t302⟩ : S88), t303, t304, t307⟩ : dS) [.int .i64 t298, .string t299, .string t300, .int .i64 t301, .int .i64 t302, .int .i64 t303, .slice Dn t304.length Dp, .int .i64 t307] (fun k_ => k_ ≠ Di ∧ k_ ≠ Ci ∧ k_ ≠ Cb) (fun k_ => ((fun k_ => k_ ≠ Di ∧ k_ ≠ Ci ∧ k_ ≠ Cb)) k_ ∧ some k_ ≠ (u298006 : Value).ownBlock) rfl rfl ?aP (fun _ hk => hk) ?aF ?aO ?aB ?aS ?aL ?_
       (case aP => exact vE _ _ _ (⟨(⟨t298, t299, t300, t301, t302⟩ : S88), t303, t304, t307⟩ : dS) (Kd.ax (Dj.out) (fun k_ hk => ⟨⟨hk.2.1, ⟨hk.2.2.1, hk.2.2.2⟩⟩, hk.1⟩)))
       (case aB => exact bl)
       (case aF => exact (fun k_ hk => ⟨Kd.lI (g := Di) (o := .cells #[.int .i64 x294000_2, .string x294001_2, .string x294002_2, .int .i64 x294003_2, .int .i64 x294004_2, .int .i64 x294005_2, .slice none 0 0, .int .i64 x294007_2] 105 (0, 0)) (bk Cf.out) k_ hk, Kd.lI (g := Ci) (o := .cells #[.int .i64 ((av l0 a1).f0), .string ((av l0 a1).f1), .string ((av l0 a1).f2), .int .i64 ((av l0 a1).f3), .int .i64 ((av l0 a1).f4), .int .i64 a1, u298006, .int .i64 x298007_2] 105 (0, 0)) (bk Ce.out) k_ hk, Kd.lI (g := Cb) (o := .cells #[.int .i64 t298, .string t299, .string t300, .int .i64 t301, .int .i64 t302, .int .i64 t303, .slice Dn t304.length Dp, .int .i64 t307] 105 (0, 0)) (bk Cj.out) k_ hk⟩))
       (case aO => exact (by exact Kd.ax (kr Cc.out) (fun _ hk => ⟨hk.2.1, ⟨hk.2.2.1, hk.2.2.2⟩⟩)))
       (case aS => exact (az bl))
       (case aL => have := LMc21.out; omega)
       intro v312 w31 ho hb hg hat
       rw [← Gm.out] at ho
       have n0_ := am (dN (g := Di) (o := .cells #[.int .i64 x294000_2, .string x294001_2, .string x294002_2, .int .i64 x294003_2, .int .i64 x294004_2, .int .i64 x294005_2, .slice none 0 0, .int .i64 x294007_2] 105 (0, 0)) (bk Cf.out) hg (Kd.rH Cc.out (fun _ hk => hk.2.1)))
       have n1_ := am (dN (g := Ci) (o := .cells #[.int .i64 ((av l0 a1).f0), .string ((av l0 a1).f1), .string ((av l0 a1).f2), .int .i64 ((av l0 a1).f3), .int .i64 ((av l0 a1).f4), .int .i64 a1, u298006, .int .i64 x298007_2] 105 (0, 0)) (bk Ce.out) hg (Kd.rH Cc.out (fun _ hk => hk.2.2.1)))
       have n2_ := am (dN (g := Cb) (o := .cells #[.int .i64 t298, .string t299, .string t300, .int .i64 t301, .int .i64 t302, .int .i64 t303, .slice Dn t304.length Dp, .int .i64 t307] 105 (0, 0)) (bk Cj.out) hg (Kd.rH Cc.out (fun _ hk => hk.2.2.2)))
       have n3_ := am (hb)
       have n4_ := am (ho)
       clear Cf
       clear Ce
       clear Cj
       clear HB
       clear Cc
       clear Dj
       have Cf := n0_
       have Ce := n1_
       have Cj := n2_
       have HB := n3_
       have Es := n4_
       clear n0_ n1_ n2_ n3_ n4_
       clear ho hb hg hat
       obtain ⟨Ih, Ii, Gp⟩ := Kd.aI Es.out
       (first | subst Gp | (injection Gp with f1_ f2_ f3_; have f4_ := f1_.symm; have f5_ := f3_.symm; clear f1_ f2_ f3_; subst f4_; subst f5_))
       refine hK.out _ _ (ol Ce.out Cj.out) (fun hHeld => ?_)
       clear hK K
       refine uS (a' := ?_) ?_ ?_
       rotate_left
       ·show Act.put _ (some 60) _ = _
        simp only [Act.put, z1, z2, z3, bu, bv]
        rfl
       refine pvL 12 68 ?_
       refine uY (i := 13) (N := none) #[T_, T_, T_, T_, T_, T_, T_, T_, T_, T_, T_, T_, T_, T_, F_, F_, F_] rfl rfl (by kernel_rfl) (by decide) (fun K hK => ?_)
       have Kb : w31.cell? ⟨Ci, 6, none⟩ = some (u298006) := (ae Ce.out 6).trans rfl
       have hfs33 := dA Ce.out 6
       have Gx := Cm.out
       have Gy := Cd.out
       have hms33_0 := Dk.out
       have hms33_2 := Cn.out
       refine oJ (w1 := ?_) (by rfl) rfl ?_ ?_
       rotate_left
       ·go_simp
        rfl
       refine hK.out _ _ ⟨((cell_far (p := ⟨Ci, _, none⟩) Cd.out _).trans (hHeld.2.2.2.2.2.2.2.2.1)), ((cell_far (p := ⟨Ci, _, none⟩) Cd.out _).trans (hHeld.2.2.2.2.2.2.2.2.2.1)), ((cell_far (p := ⟨Ci, _, none⟩) Cd.out _).trans (hHeld.2.2.2.2.2.2.2.2.2.2.1)), ((cell_far (p := ⟨Ci, _, none⟩) Cd.out _).trans (hHeld.2.2.2.2.2.2.2.2.2.2.2.1)), ((cell_far (p := ⟨Ci, _, none⟩) Cd.out _).trans (hHeld.2.2.2.2.2.2.2.2.2.2.2.2.1)), ((cell_far (p := ⟨Ci, _, none⟩) Cd.out _).trans (hHeld.2.2.2.2.2.2.2.2.2.2.2.2.2.1)), ((cell_far (p := ⟨Ci, _, none⟩) Cd.out _).trans (hHeld.2.2.2.2.2.2.2.2.2.2.2.2.2.2.1)), ((cell_far (p := ⟨Ci, _, none⟩) Cd.out _).trans (hHeld.2.2.2.2.2.2.2.2.2.2.2.2.2.2.2))⟩ (fun hHeld2 => ?_)
       clear hK K
       refine pvL 14 69 ?_
       refine uY (i := 15) (N := none) #[T_, T_, T_, T_, T_, T_, T_, T_, T_, T_, T_, T_, T_, T_, T_, T_, F_] rfl rfl (by kernel_rfl) (by decide) (fun K hK => ?_)
       have Ke : w31.cell? ⟨Ci, 7, none⟩ = some (.int .i64 x298007_2) := (ae Ce.out 7).trans rfl
       have hfs34 := dA Ce.out 7
       have Gz := Cm.out
       have Ia := Cd.out
       have hms34_0 := Dk.out
       have hms34_2 := Cn.out
       refine oJ (w1 := ?_) (by rfl) rfl ?_ ?_
       rotate_left
       ·go_simp
        rfl
       refine hK.out _ _ ⟨((cell_far (p := ⟨Ci, _, none⟩) Cd.out _).trans (hHeld2.1)), ((cell_far (p := ⟨Ci, _, none⟩) Cd.out _).trans (hHeld2.2.1)), ((cell_far (p := ⟨Ci, _, none⟩) Cd.out _).trans (hHeld2.2.2.1)), ((cell_far (p := ⟨Ci, _, none⟩) Cd.out _).trans (hHeld2.2.2.2.1)), ((cell_far (p := ⟨Ci, _, none⟩) Cd.out _).trans (hHeld2.2.2.2.2.1)), ((cell_far (p := ⟨Ci, _, none⟩) Cd.out _).trans (hHeld2.2.2.2.2.2.1)), ((cell_far (p := ⟨Ci, _, none⟩) Cd.out _).trans (hHeld2.2.2.2.2.2.2.1)), ((cell_far (p := ⟨Ci, _, none⟩) Cd.out _).trans (hHeld2.2.2.2.2.2.2.2))⟩ (fun hHeld2 => ?_)
       clear hK K
       refine pvL 16 1 ?_
       refine doneL_ (by kernel_rfl) ?_
       try go_wp2
       go_roundg k2
       case measure => have := Gv.out; have := Gw.out; omega
       case rel => exact ⟨(t308), (wrap64 (x42_2 + 1)), (x294000_2), (x294001_2), (x294002_2), (x294003_2), (x294004_2), (x294005_2), (x294007_2), (Gf), (ji22), (.slice Ih Gf.length Ii), rs, rs, H', ⟨by have := Gv.out; have := Gw.out; omega⟩, ⟨by exact Kd.ax (eU (Kd.ax Es.out (fun k_ hk => (⟨hk, hk.2.1⟩ : _ ∧ k_ ≠ Ci)))) (fun _ hk => ⟨hk.1.1, hk.1.2.1⟩)⟩, ⟨bf Cf.out Cm.out⟩, ⟨bp Ce.out⟩, ⟨bl⟩⟩
      simp only [Option.some.injEq, Prod.mk.injEq] at H
      obtain ⟨rfl, rfl, rfl, rfl, rfl, rfl, rfl, rfl, rfl, rfl⟩ := H
      go_wp2_with (first | ((with_reducible refine c_ 81 ?_); refine gc 81 (some 49) Tryz.func81 (ih k2 (by have := Gv.out; have := Gw.out; omega) _ _ l0 x1_2 (wrap64 (a2 + 1)) t298 t299 t300 t301 t302 t303 t304 t307 t308 false _ ?Dv ?Dw Ie.out) ?_; (case Dv => exact cb Ey.out); (case Dw => exact Gg.out); rintro e w35 ⟨v305, rfl, ho0, hb⟩; refine ⟨_, rfl, ?_⟩; have Dj := am (Kd.bz (Kd.mW (Kd.mW (Kd.bW ho0 (Kd.ek (kr Cc.out))) (g := Di) (o := .cells #[.int .i64 x294000_2, .string x294001_2, .string x294002_2, .int .i64 x294003_2, .int .i64 x294004_2, .int .i64 x294005_2, .slice none 0 0, .int .i64 x294007_2] 105 (0, 0)) (bk Cf.out)) (g := Ci) (o := .cells #[.int .i64 ((av l0 a1).f0), .string ((av l0 a1).f1), .string ((av l0 a1).f2), .int .i64 ((av l0 a1).f3), .int .i64 ((av l0 a1).f4), .int .i64 a1, u298006, .int .i64 x298007_2] 105 (0, 0)) (bk Ce.out)) (az bl)); replace Cc := am (Kd.eY (kr Cc.out) (Kd.bO ho0) hb); refine r2_ hb Cf Ce ?_; clear Cf Ce; intro Cf Ce; replace HB := ho hb; clear hb ho0) | ((with_reducible refine g_ 10 ?_); refine bx 10 #[.int .i64 0, .string (⟨#[]⟩ : ByteArray), .string (⟨#[]⟩ : ByteArray), .int .i64 0, .int .i64 0, .int .i64 0, .slice none 0 0, .int .i64 0] 105 ?_; intro Cb hg w36 hbox hb; replace Cc := am (Kd.gP (Kd.jc (kr Cc.out) Cb (Nat.le_of_eq hg.symm)) hb); replace Dj := am (Kd.gP (Kd.jc (kr Dj.out) Cb (Nat.le_of_eq hg.symm)) hb); have Cj := am hbox; have Ek := am (bsz hg : w.heap.size ≤ Cb); have Gn := Ek; have Df := no hg Cf; have Dt := am Df.out.symm; replace Cf := bo Cf hb; have Cn := no hg Ce; have Cd := am Cn.out.symm; replace Ce := bo Ce hb; replace HB := ho hb; clear hb hbox hg; have Jk := Dt.out; have Jl := Df.out; have Jm := Cd.out; have Jn := Cn.out; have Kl := dD Cj.out; obtain ⟨Kf, Kg, Ij⟩ := Kd.aI Dj.out; subst Ij; have Jo := Cm.out; have Jp := Dk.out; have Km := dD Cf.out))
      refine bodyPost_ret (kN rfl _ _ Di 105 #[.int .i64 0, .string (⟨#[]⟩ : ByteArray), .string (⟨#[]⟩ : ByteArray), .int .i64 0, .int .i64 0, .int .i64 0, .slice none 0 0, .int .i64 0] (0, 0) _ rfl (bpf Cf.out Df.out) Tryz.underlying105 rfl (by kernel_rfl)) rfl ?_
      exact ⟨_, er, by first | exact Kd.je _ _ _ _ _ | exact Kd.jY _ _ _ _ _ | exact Kd.jU _ _ _ _ _ | exact Kd.jX _ _ _ _ _ | exact Kd.jV _ _ _ _ _, bl⟩
     simp only [Option.some.injEq, Prod.mk.injEq] at H
     obtain ⟨rfl, rfl, rfl, rfl, rfl, rfl, rfl, rfl, rfl, rfl⟩ := H
     have Jq := Dk.out
     have Jr := Cm.out
     have Kn := dD Ce.out
     have Ko := dD Cf.out
     obtain ⟨Ik, Il, Im⟩ := Kd.aI Cc.out
     subst Im
     go_wp2
     refine bodyPost_ret (kN rfl _ _ Di 105 #[.int .i64 ((av l0 a1).f0), .string ((av l0 a1).f1), .string ((av l0 a1).f2), .int .i64 ((av l0 a1).f3), .int .i64 ((av l0 a1).f4), .int .i64 a1, .slice Ik x298006_2.length Il, .int .i64 x298007_2] (0, 0) _ rfl (bp Cf.out) Tryz.underlying105 rfl (by kernel_rfl)) rfl ?_
     exact ⟨_, er, by (with_reducible repeat (first | apply Kd.fM | apply Kd.fK | apply Kd.dx)); exact Kd.ax (eU (Kd.ax Cc.out (fun k_ hk => (⟨hk, hk.1⟩ : _ ∧ k_ ≠ Di)))) (fun _ hk => trivial), bl⟩
def fE.f (k : Nat) (l0 : List (S88)) : Option (Int × ByteArray × ByteArray × Int × Int × Int × (List (dS)) × Int × Bool) := if (l0.length : Int) > 150 then (some (0, (⟨#[]⟩ : ByteArray), (⟨#[]⟩ : ByteArray), 0, 0, 0, ([] : List (dS)), 0, false)) else ((aW.f k l0 0 1).bind fun bt315 => (if bt315.2.2.2.2.2.2.2.2.2 = true then (some (bt315.1, bt315.2.1, bt315.2.2.1, bt315.2.2.2.1, bt315.2.2.2.2.1, bt315.2.2.2.2.2.1, bt315.2.2.2.2.2.2.1, bt315.2.2.2.2.2.2.2.1, (bt315.2.2.2.2.2.2.2.2.1 == (l0.length : Int)))) else (some (bt315.1, bt315.2.1, bt315.2.2.1, bt315.2.2.2.1, bt315.2.2.2.2.1, bt315.2.2.2.2.2.1, bt315.2.2.2.2.2.2.1, bt315.2.2.2.2.2.2.2.1, false))))
theorem fE.mono : ∀ a0 k, LeO (fE.f k a0) (fE.f (k + 1) a0) := by
 intro a0 k
 unfold fE.f
 repeat' (with_reducible first | exact aW.mono .. | exact LeO.refl _ | exact LeO.none _ | refine LeO.ite ?_ ?_ | refine LeO.bind ?_ (fun _ => ?_))
theorem fE.calls (k : Nat) (A0 : Option Addr) (c0 : Nat) (l0 : List (S88)) (r1 : Int) (r2 : ByteArray) (r3 : ByteArray) (r4 : Int) (r5 : Int) (r6 : Int) (r7 : List (dS)) (r8 : Int) (r9 : Bool) (w : World) (hr0 : Kd.C k88 w A0 l0.length l0) (hc0 : l0.length ≤ c0) (h : fE.f k l0 = some (r1, r2, r3, r4, r5, r6, r7, r8, r9)) :
  Calls Tryz.prog 70 #[.slice A0 l0.length c0] w fun e w' => ∃ v6_ : Value, e = .returned (.tuple #[.agg #[.int .i64 r1, .string r2, .string r3, .int .i64 r4, .int .i64 r5, .int .i64 r6, v6_, .int .i64 r8], .bool r9]) ∧ Kd.R jo 105 w' w.heap.size (fun _ => True) v6_ r7 ∧ Below w.heap.size w w' := by
 have hu105 := Tryz.underlying105
 have Ey := am hr0
 have Gg := am hc0
 clear hr0 hc0
 have HB := am (Below.refl w.heap.size w)
 have H := h
 clear h
 unfold fE.f at H
 revert H; refine iDn (fun c2 Io H => ?_) fun c2 Io H => ?_
 ·have Ip : decide (150 < l0.length) = true := decide_eq_true (by omega)
  clear c2
  simp only [Option.some.injEq, Prod.mk.injEq] at H
  obtain ⟨rfl, rfl, rfl, rfl, rfl, rfl, rfl, rfl, rfl⟩ := H
  go_enter Tryz.func70, Tryz.ntmps70
  go_wp2_with (first | ((with_reducible refine dH (N := 2) rfl ?_); (try (refine dz (by rfl) ?_; dsimp only)); refine dR ?hg (N := 2) ?hd (cs := #[.int .i64 0, .string (⟨#[]⟩ : ByteArray), .string (⟨#[]⟩ : ByteArray), .int .i64 0, .int .i64 0, .int .i64 0, .slice none 0 0, .int .i64 0]) (t := 105) ?hr ?_; (case hd => rfl); (case hg => rfl); (case hr => first | (go_simp; done) | (go_simp; rfl)); intro Dl hg w3 hbox hb; have Dc := am hbox; have Ed := am (bsz hg : w.heap.size ≤ Dl); have Et := Ed; replace HB := ho hb; clear hb hbox hg; have Z4 := dD Dc.out))
  refine bodyPost_ret (lF rfl _ _ Dl 105 #[.int .i64 0, .string (⟨#[]⟩ : ByteArray), .string (⟨#[]⟩ : ByteArray), .int .i64 0, .int .i64 0, .int .i64 0, .slice none 0 0, .int .i64 0] (0, 0) _ rfl (bp Dc.out) Tryz.underlying105 rfl (by kernel_rfl)) rfl ?_
  exact ⟨_, er, by first | exact Kd.je _ _ _ _ _ | exact Kd.jY _ _ _ _ _ | exact Kd.jU _ _ _ _ _ | exact Kd.jX _ _ _ _ _ | exact Kd.jV _ _ _ _ _, bl⟩
 have Ip : decide (150 < l0.length) = false := decide_eq_false (by omega)
 clear c2
 replace H := bi H; obtain ⟨⟨t315, t316, t317, t318, t319, t320, t321, t324, t325, t326⟩, A5, H⟩ := H; dsimp only at H
 replace H := iT H; rcases H with ⟨rfl, H⟩ | ⟨rfl, H⟩
 ·simp only [Option.some.injEq, Prod.mk.injEq] at H
  obtain ⟨rfl, rfl, rfl, rfl, rfl, rfl, rfl, rfl, rfl⟩ := H
  go_enter Tryz.func70, Tryz.ntmps70
  go_wp2_with (first | ((with_reducible refine dH (N := 2) rfl ?_); (try (refine dz (by rfl) ?_; dsimp only)); refine dR ?hg (N := 2) ?hd (cs := #[.int .i64 0, .string (⟨#[]⟩ : ByteArray), .string (⟨#[]⟩ : ByteArray), .int .i64 0, .int .i64 0, .int .i64 0, .slice none 0 0, .int .i64 0]) (t := 105) ?hr ?_; (case hd => rfl); (case hg => rfl); (case hr => first | (go_simp; done) | (go_simp; rfl)); intro Dl hg w7 hbox hb; have Dc := am hbox; have Ed := am (bsz hg : w.heap.size ≤ Dl); have Et := Ed; replace HB := ho hb; clear hb hbox hg) | ((with_reducible refine c_ 81 ?_); refine gc 81 (some 13) Tryz.func81 (aW.calls _ _ _ _ _ _ _ _ _ _ _ _ _ _ _ _ _ ?Dv ?Dw A5.out) ?_; (case Dv => exact cb Ey.out); (case Dw => exact Gg.out); rintro e w8 ⟨v322, rfl, ho0, hb⟩; refine ⟨_, rfl, ?_⟩; have Dq := am (Kd.bz (Kd.mW ho0 (g := Dl) (o := .cells #[.int .i64 0, .string (⟨#[]⟩ : ByteArray), .string (⟨#[]⟩ : ByteArray), .int .i64 0, .int .i64 0, .int .i64 0, .slice none 0 0, .int .i64 0] 105 (0, 0)) (bk Dc.out)) (az bl)); replace Dc := bo Dc hb; replace HB := ho hb; clear hb ho0) | ((with_reducible refine dH (N := 4) rfl ?_); (try (refine dz (by rfl) ?_; dsimp only)); refine dR ?hg (N := 4) ?hd (cs := #[.int .i64 0, .string (⟨#[]⟩ : ByteArray), .string (⟨#[]⟩ : ByteArray), .int .i64 0, .int .i64 0, .int .i64 0, .slice none 0 0, .int .i64 0]) (t := 105) ?hr ?_; (case hd => rfl); (case hg => rfl); (case hr => first | (go_simp; done) | (go_simp; rfl)); intro Dx hg w9 hbox hb; replace Dq := am (Kd.gP (Kd.jc (kr Dq.out) Dx (Nat.le_of_eq hg.symm)) hb); have Em := am hbox; have En := am (bsz hg : w.heap.size ≤ Dx); have Gq := En; have Dh := no hg Dc; have Du := am Dh.out.symm; replace Dc := bo Dc hb; replace HB := ho hb; clear hb hbox hg; have Js := Du.out; have Jt := Dh.out; have Kp := dD Em.out; obtain ⟨Iq, Ir, Iu⟩ := Kd.aI Dq.out; subst Iu; have Kq := dD Dc.out))
  refine bodyPost_ret (lF rfl _ _ Dl 105 #[.int .i64 t315, .string t316, .string t317, .int .i64 t318, .int .i64 t319, .int .i64 t320, .slice Iq t321.length Ir, .int .i64 t324] (0, 0) _ rfl (bpf Dc.out Dh.out) Tryz.underlying105 rfl (by kernel_rfl)) rfl ?_
  exact ⟨_, er, by (with_reducible repeat (first | apply Kd.fM | apply Kd.fK | apply Kd.dx)); exact Kd.ax (eU (Kd.ax (Kd.ax Dq.out (fun k_ hk => (⟨hk, hk.2⟩ : _ ∧ k_ ≠ Dx))) (fun k_ hk => (⟨hk, hk.1.1.2⟩ : _ ∧ k_ ≠ Dl)))) (fun _ hk => trivial), bl⟩
 simp only [Option.some.injEq, Prod.mk.injEq] at H
 obtain ⟨rfl, rfl, rfl, rfl, rfl, rfl, rfl, rfl, rfl⟩ := H
 go_enter Tryz.func70, Tryz.ntmps70
 go_wp2_with (first | ((with_reducible refine dH (N := 2) rfl ?_); (try (refine dz (by rfl) ?_; dsimp only)); refine dR ?hg (N := 2) ?hd (cs := #[.int .i64 0, .string (⟨#[]⟩ : ByteArray), .string (⟨#[]⟩ : ByteArray), .int .i64 0, .int .i64 0, .int .i64 0, .slice none 0 0, .int .i64 0]) (t := 105) ?hr ?_; (case hd => rfl); (case hg => rfl); (case hr => first | (go_simp; done) | (go_simp; rfl)); intro Dl hg w14 hbox hb; have Dc := am hbox; have Ed := am (bsz hg : w.heap.size ≤ Dl); have Et := Ed; replace HB := ho hb; clear hb hbox hg) | ((with_reducible refine c_ 81 ?_); refine gc 81 (some 13) Tryz.func81 (aW.calls _ _ _ _ _ _ _ _ _ _ _ _ _ _ _ _ _ ?Dv ?Dw A5.out) ?_; (case Dv => exact cb Ey.out); (case Dw => exact Gg.out); rintro e w15 ⟨v322, rfl, ho0, hb⟩; refine ⟨_, rfl, ?_⟩; have Dq := am (Kd.bz (Kd.mW ho0 (g := Dl) (o := .cells #[.int .i64 0, .string (⟨#[]⟩ : ByteArray), .string (⟨#[]⟩ : ByteArray), .int .i64 0, .int .i64 0, .int .i64 0, .slice none 0 0, .int .i64 0] 105 (0, 0)) (bk Dc.out)) (az bl)); replace Dc := bo Dc hb; replace HB := ho hb; clear hb ho0) | ((with_reducible refine dH (N := 4) rfl ?_); (try (refine dz (by rfl) ?_; dsimp only)); refine dR ?hg (N := 4) ?hd (cs := #[.int .i64 0, .string (⟨#[]⟩ : ByteArray), .string (⟨#[]⟩ : ByteArray), .int .i64 0, .int .i64 0, .int .i64 0, .slice none 0 0, .int .i64 0]) (t := 105) ?hr ?_; (case hd => rfl); (case hg => rfl); (case hr => first | (go_simp; done) | (go_simp; rfl)); intro Dx hg w16 hbox hb; replace Dq := am (Kd.gP (Kd.jc (kr Dq.out) Dx (Nat.le_of_eq hg.symm)) hb); have Em := am hbox; have En := am (bsz hg : w.heap.size ≤ Dx); have Gq := En; have Dh := no hg Dc; have Du := am Dh.out.symm; replace Dc := bo Dc hb; replace HB := ho hb; clear hb hbox hg; have Ju := Du.out; have Jv := Dh.out; have Kr := dD Em.out; obtain ⟨Iw, Ix, Iy⟩ := Kd.aI Dq.out; subst Iy; have Ks := dD Dc.out))
 refine bodyPost_ret (lF rfl _ _ Dl 105 #[.int .i64 t315, .string t316, .string t317, .int .i64 t318, .int .i64 t319, .int .i64 t320, .slice Iw t321.length Ix, .int .i64 t324] (0, 0) _ rfl (bpf Dc.out Dh.out) Tryz.underlying105 rfl (by kernel_rfl)) rfl ?_
 exact ⟨_, er, by (with_reducible repeat (first | apply Kd.fM | apply Kd.fK | apply Kd.dx)); exact Kd.ax (eU (Kd.ax (Kd.ax Dq.out (fun k_ hk => (⟨hk, hk.2⟩ : _ ∧ k_ ≠ Dx))) (fun k_ hk => (⟨hk, hk.1.1.2⟩ : _ ∧ k_ ≠ Dl)))) (fun _ hk => trivial), bl⟩
def strings_Repeat.f (a0 : ByteArray) (a1 : Int) : Option ByteArray := if 0 ≤ a1 ∧ a1 ≤ 9223372036854775807 ∧ a0.size * a1.toNat ≤ 140737488355328 then some ⟨(Lib.repeatL a0.data.toList a1.toNat).toArray⟩ else none
theorem strings_Repeat.calls (a0 : ByteArray) (a1 : Int) (r : ByteArray) (w : World) (h : strings_Repeat.f a0 a1 = some r) :
  Calls Tryz.prog 82 #[.string a0, .int .i64 a1] w fun e w' => e = .returned (.string r) ∧ Below w.heap.size w w' := by
 unfold strings_Repeat.f at h
 by_cases hd : 0 ≤ a1 ∧ a1 ≤ 9223372036854775807 ∧ a0.size * a1.toNat ≤ 140737488355328
 ·rw [if_pos hd] at h
  cases h
  obtain ⟨c, rfl⟩ := Int.eq_ofNat_of_zero_le hd.1
  exact Tryz.strings_Repeat a0 c w (by have := hd.2.1; omega) hd.2.2
 rw [if_neg hd] at h; cases h
def fC.f  : Option (List ByteArray) := some (([(⟨#[43]⟩ : ByteArray), (⟨#[45]⟩ : ByteArray), (⟨#[42]⟩ : ByteArray), (⟨#[60]⟩ : ByteArray), (⟨#[60, 61]⟩ : ByteArray), (⟨#[61]⟩ : ByteArray), (⟨#[97, 110, 100]⟩ : ByteArray), (⟨#[111, 114]⟩ : ByteArray)] : List ByteArray))
theorem fC.calls  (r : List ByteArray) (w : World) (h : fC.f  = some r) :
  Calls Tryz.prog 108 #[] w fun e w' => ∃ v0_ : Value, e = .returned (v0_) ∧ Kd.R Kd.string 9 w' w.heap.size (fun _ => True) v0_ r ∧ Below w.heap.size w w' := by
 have HB := am (Below.refl w.heap.size w)
 have H := h
 clear h
 unfold fC.f at H
 generalize h_ : ((([(⟨#[43]⟩ : ByteArray), (⟨#[45]⟩ : ByteArray), (⟨#[42]⟩ : ByteArray), (⟨#[60]⟩ : ByteArray), (⟨#[60, 61]⟩ : ByteArray), (⟨#[61]⟩ : ByteArray), (⟨#[97, 110, 100]⟩ : ByteArray), (⟨#[111, 114]⟩ : ByteArray)] : List ByteArray)) : List ByteArray) = Kh at H
 have Eu := am h_.symm; clear h_; try rw [Option.bind_some] at H
 obtain rfl := Option.some.inj H
 go_enter Tryz.func108, Tryz.ntmps108
 go_wp2_with (first | ((with_reducible refine dH (N := 1) rfl ?_); refine Kd.nz Kd.string _ 9 ?hg (N := 1) ?hd (xs := ([(⟨#[43]⟩ : ByteArray), (⟨#[45]⟩ : ByteArray), (⟨#[42]⟩ : ByteArray), (⟨#[60]⟩ : ByteArray), (⟨#[60, 61]⟩ : ByteArray), (⟨#[61]⟩ : ByteArray), (⟨#[97, 110, 100]⟩ : ByteArray), (⟨#[111, 114]⟩ : ByteArray)] : List ByteArray)) (inner := [.string (⟨#[43]⟩ : ByteArray), .string (⟨#[45]⟩ : ByteArray), .string (⟨#[42]⟩ : ByteArray), .string (⟨#[60]⟩ : ByteArray), .string (⟨#[60, 61]⟩ : ByteArray), .string (⟨#[61]⟩ : ByteArray), .string (⟨#[97, 110, 100]⟩ : ByteArray), .string (⟨#[111, 114]⟩ : ByteArray)]) (ok := fun _ => True) (okp := fun _ => True) ?hr ?hp (fun _ hk => hk) trivial (Below.refl _ _) (Nat.le_refl _) (by simp) ?_; (case hd => rfl); (case hg => rfl); (case hr => first | (go_simp; done) | (go_simp; rfl)); (case hp => exact (dw.one (show Kd.M Kd.string _ _ _ (⟨#[43]⟩ : ByteArray) [.string (⟨#[43]⟩ : ByteArray)] from rfl) (dw.one (show Kd.M Kd.string _ _ _ (⟨#[45]⟩ : ByteArray) [.string (⟨#[45]⟩ : ByteArray)] from rfl) (dw.one (show Kd.M Kd.string _ _ _ (⟨#[42]⟩ : ByteArray) [.string (⟨#[42]⟩ : ByteArray)] from rfl) (dw.one (show Kd.M Kd.string _ _ _ (⟨#[60]⟩ : ByteArray) [.string (⟨#[60]⟩ : ByteArray)] from rfl) (dw.one (show Kd.M Kd.string _ _ _ (⟨#[60, 61]⟩ : ByteArray) [.string (⟨#[60, 61]⟩ : ByteArray)] from rfl) (dw.one (show Kd.M Kd.string _ _ _ (⟨#[61]⟩ : ByteArray) [.string (⟨#[61]⟩ : ByteArray)] from rfl) (dw.one (show Kd.M Kd.string _ _ _ (⟨#[97, 110, 100]⟩ : ByteArray) [.string (⟨#[97, 110, 100]⟩ : ByteArray)] from rfl) (dw.one (show Kd.M Kd.string _ _ _ (⟨#[111, 114]⟩ : ByteArray) [.string (⟨#[111, 114]⟩ : ByteArray)] from rfl) (dw.none _ _)))))))))); intro v329 w1 ho2 hb hg_ hnew_; clear hg_ hnew_; (first | rw [← Eu.out] at ho2 | (simp only [Int.reduceToNat] at ho2; rw [← Eu.out] at ho2)); have Gs := am (Kd.bz ho2 (az bl)); replace HB := ho hb; clear hb ho2))
 go_ret
 exact ⟨_, er, kr Gs.out, bl⟩
def fu.f  : Option (List ByteArray) := some (([(⟨#[105, 110, 116, 101, 114, 101, 115, 116]⟩ : ByteArray), (⟨#[105, 110, 115, 116, 97, 108, 109, 101, 110, 116]⟩ : ByteArray), (⟨#[108, 97, 116, 101, 114]⟩ : ByteArray), (⟨#[100, 97, 121, 115]⟩ : ByteArray), (⟨#[108, 101, 97, 115, 116]⟩ : ByteArray), (⟨#[109, 111, 115, 116]⟩ : ByteArray), (⟨#[115, 104, 97, 114, 101]⟩ : ByteArray)] : List ByteArray))
theorem fu.calls  (r : List ByteArray) (w : World) (h : fu.f  = some r) :
  Calls Tryz.prog 109 #[] w fun e w' => ∃ v0_ : Value, e = .returned (v0_) ∧ Kd.R Kd.string 9 w' w.heap.size (fun _ => True) v0_ r ∧ Below w.heap.size w w' := by
 have HB := am (Below.refl w.heap.size w)
 have H := h
 clear h
 unfold fu.f at H
 generalize h_ : ((([(⟨#[105, 110, 116, 101, 114, 101, 115, 116]⟩ : ByteArray), (⟨#[105, 110, 115, 116, 97, 108, 109, 101, 110, 116]⟩ : ByteArray), (⟨#[108, 97, 116, 101, 114]⟩ : ByteArray), (⟨#[100, 97, 121, 115]⟩ : ByteArray), (⟨#[108, 101, 97, 115, 116]⟩ : ByteArray), (⟨#[109, 111, 115, 116]⟩ : ByteArray), (⟨#[115, 104, 97, 114, 101]⟩ : ByteArray)] : List ByteArray)) : List ByteArray) = Ki at H
 have Ew := am h_.symm; clear h_; try rw [Option.bind_some] at H
 obtain rfl := Option.some.inj H
 go_enter Tryz.func109, Tryz.ntmps109
 go_wp2_with (first | ((with_reducible refine dH (N := 1) rfl ?_); refine Kd.nz Kd.string _ 9 ?hg (N := 1) ?hd (xs := ([(⟨#[105, 110, 116, 101, 114, 101, 115, 116]⟩ : ByteArray), (⟨#[105, 110, 115, 116, 97, 108, 109, 101, 110, 116]⟩ : ByteArray), (⟨#[108, 97, 116, 101, 114]⟩ : ByteArray), (⟨#[100, 97, 121, 115]⟩ : ByteArray), (⟨#[108, 101, 97, 115, 116]⟩ : ByteArray), (⟨#[109, 111, 115, 116]⟩ : ByteArray), (⟨#[115, 104, 97, 114, 101]⟩ : ByteArray)] : List ByteArray)) (inner := [.string (⟨#[105, 110, 116, 101, 114, 101, 115, 116]⟩ : ByteArray), .string (⟨#[105, 110, 115, 116, 97, 108, 109, 101, 110, 116]⟩ : ByteArray), .string (⟨#[108, 97, 116, 101, 114]⟩ : ByteArray), .string (⟨#[100, 97, 121, 115]⟩ : ByteArray), .string (⟨#[108, 101, 97, 115, 116]⟩ : ByteArray), .string (⟨#[109, 111, 115, 116]⟩ : ByteArray), .string (⟨#[115, 104, 97, 114, 101]⟩ : ByteArray)]) (ok := fun _ => True) (okp := fun _ => True) ?hr ?hp (fun _ hk => hk) trivial (Below.refl _ _) (Nat.le_refl _) (by simp) ?_; (case hd => rfl); (case hg => rfl); (case hr => first | (go_simp; done) | (go_simp; rfl)); (case hp => exact (dw.one (show Kd.M Kd.string _ _ _ (⟨#[105, 110, 116, 101, 114, 101, 115, 116]⟩ : ByteArray) [.string (⟨#[105, 110, 116, 101, 114, 101, 115, 116]⟩ : ByteArray)] from rfl) (dw.one (show Kd.M Kd.string _ _ _ (⟨#[105, 110, 115, 116, 97, 108, 109, 101, 110, 116]⟩ : ByteArray) [.string (⟨#[105, 110, 115, 116, 97, 108, 109, 101, 110, 116]⟩ : ByteArray)] from rfl) (dw.one (show Kd.M Kd.string _ _ _ (⟨#[108, 97, 116, 101, 114]⟩ : ByteArray) [.string (⟨#[108, 97, 116, 101, 114]⟩ : ByteArray)] from rfl) (dw.one (show Kd.M Kd.string _ _ _ (⟨#[100, 97, 121, 115]⟩ : ByteArray) [.string (⟨#[100, 97, 121, 115]⟩ : ByteArray)] from rfl) (dw.one (show Kd.M Kd.string _ _ _ (⟨#[108, 101, 97, 115, 116]⟩ : ByteArray) [.string (⟨#[108, 101, 97, 115, 116]⟩ : ByteArray)] from rfl) (dw.one (show Kd.M Kd.string _ _ _ (⟨#[109, 111, 115, 116]⟩ : ByteArray) [.string (⟨#[109, 111, 115, 116]⟩ : ByteArray)] from rfl) (dw.one (show Kd.M Kd.string _ _ _ (⟨#[115, 104, 97, 114, 101]⟩ : ByteArray) [.string (⟨#[115, 104, 97, 114, 101]⟩ : ByteArray)] from rfl) (dw.none _ _))))))))); intro v332 w1 ho2 hb hg_ hnew_; clear hg_ hnew_; (first | rw [← Ew.out] at ho2 | (simp only [Int.reduceToNat] at ho2; rw [← Ew.out] at ho2)); have Gu := am (Kd.bz ho2 (az bl)); replace HB := ho hb; clear hb ho2))
 go_ret
 exact ⟨_, er, kr Gu.out, bl⟩
/-- What the group's members take of ag: a function, and its contract. -/
structure ag.HK where
 f : Int → ByteArray → ByteArray → Int → Int → Int → List (dS) → Int → ByteArray → Option (Bool)
 calls : ∀ (a0_0 : Int) (a0_1 : ByteArray) (a0_2 : ByteArray) (a0_3 : Int) (a0_4 : Int) (a0_5 : Int) (A0_6 : Option Addr) (c0_6 : Nat) (l0_6 : List (dS)) (a0_7 : Int) (a1 : ByteArray) (r : Bool) (w : World) (hr0_6 : Kd.C jo w A0_6 l0_6.length l0_6) (Jw : l0_6.length ≤ c0_6) (hsh : Sh w) (h : f a0_0 a0_1 a0_2 a0_3 a0_4 a0_5 l0_6 a0_7 a1 = some r),
  Calls Tryz.prog 83 #[.agg #[.int .i64 a0_0, .string a0_1, .string a0_2, .int .i64 a0_3, .int .i64 a0_4, .int .i64 a0_5, .slice A0_6 l0_6.length c0_6, .int .i64 a0_7], .string a1] w fun e w' => e = .returned (.bool r) ∧ Below w.heap.size w w'
mutual
def ah.j0 (KF : Int → ByteArray → ByteArray → Int → Int → Int → List (dS) → Int → ByteArray → Option (Bool)) : Nat → Bool → Bool → ByteArray → Int → Bool → Int → ByteArray → ByteArray → Int → Int → Int → List (dS) → Int → Option (Bool)
 | 0, _, _, _, _, _, _, _, _, _, _, _, _, _ => none
 | k + 1, x3, x4, x5, x16, x17, x335000, x335001, x335002, x335003, x335004, x335005, x335006, x335007 => if x17 = true then ((bE.f k x335000 x335003).bind fun t335 => (if x3 = true then (if t335 = true then (if x335002.toList = ([] : List UInt8) then ((KF x335000 x335001 x335002 x335003 x335004 x335005 x335006 x335007 x5).bind fun t336 => (some t336)) else (some false)) else (some false)) else (some false))) else (if x16 = 6 then (ah.j1 KF k x3 x4 x5 x16 (x16 == 6) x335000 x335001 x335002 x335003 x335004 x335005 x335006 x335007) else (ah.j1 KF k x3 x4 x5 x16 (x16 == 7) x335000 x335001 x335002 x335003 x335004 x335005 x335006 x335007))
def ah.j1 (KF : Int → ByteArray → ByteArray → Int → Int → Int → List (dS) → Int → ByteArray → Option (Bool)) : Nat → Bool → Bool → ByteArray → Int → Bool → Int → ByteArray → ByteArray → Int → Int → Int → List (dS) → Int → Option (Bool)
 | 0, _, _, _, _, _, _, _, _, _, _, _, _, _ => none
 | k + 1, x3, x4, x5, x16, x30, x335000, x335001, x335002, x335003, x335004, x335005, x335006, x335007 => if x30 = true then ((df.f x335001).bind fun t337 => (if t337 = true then (if x4 = true then (if x335002.toList = ([] : List UInt8) then ((KF x335000 x335001 x335002 x335003 x335004 x335005 x335006 x335007 x5).bind fun t338 => (some t338)) else (some false)) else (some false)) else (some false))) else (if x16 = 8 then (ah.j2 KF k x3 x4 x5 x16 (x16 == 8) x335000 x335001 x335002 x335003 x335004 x335005 x335006 x335007) else (if x16 = 9 then (ah.j2 KF k x3 x4 x5 x16 (x16 == 9) x335000 x335001 x335002 x335003 x335004 x335005 x335006 x335007) else (if x16 = 10 then (ah.j2 KF k x3 x4 x5 x16 (x16 == 10) x335000 x335001 x335002 x335003 x335004 x335005 x335006 x335007) else (ah.j2 KF k x3 x4 x5 x16 (x16 == 11) x335000 x335001 x335002 x335003 x335004 x335005 x335006 x335007))))
def ah.j2 (KF : Int → ByteArray → ByteArray → Int → Int → Int → List (dS) → Int → ByteArray → Option (Bool)) : Nat → Bool → Bool → ByteArray → Int → Bool → Int → ByteArray → ByteArray → Int → Int → Int → List (dS) → Int → Option (Bool)
 | 0, _, _, _, _, _, _, _, _, _, _, _, _, _ => none
 | k + 1, x3, x4, x5, x16, x37, x335000, x335001, x335002, x335003, x335004, x335005, x335006, x335007 => if x37 = true then (if x3 = true then (if x4 = true then (if x335002.toList = ([] : List UInt8) then ((KF x335000 x335001 x335002 x335003 x335004 x335005 x335006 x335007 x5).bind fun t339 => (some t339)) else (some false)) else (some false)) else (some false)) else (if x16 = 12 then ((fC.f).bind fun t340 => ((ay.f k t340 x335001).bind fun t343 => (if t343 = true then (if x4 = true then (if x335002.toList = ([] : List UInt8) then ((KF x335000 x335001 x335002 x335003 x335004 x335005 x335006 x335007 (⟨#[101, 101]⟩ : ByteArray)).bind fun t344 => (some t344)) else (some false)) else (some false)) else (some false)))) else (if x16 = 13 then (if x3 = true then (if x4 = true then (if x335002.toList = ([] : List UInt8) then ((KF x335000 x335001 x335002 x335003 x335004 x335005 x335006 x335007 (⟨#[101]⟩ : ByteArray)).bind fun t345 => (some t345)) else (some false)) else (some false)) else (some false)) else (if x16 = 14 then ((fu.f).bind fun t346 => ((ay.f k t346 x335001).bind fun t349 => (if t349 = true then ((dZ.f (x335006.length : Int) 1 4).bind fun t350 => ((strings_Repeat.f (⟨#[101]⟩ : ByteArray) (x335006.length : Int)).bind fun t351 => (if t350 = true then (if x4 = true then (if x335002.toList = ([] : List UInt8) then ((KF x335000 x335001 x335002 x335003 x335004 x335005 x335006 x335007 t351).bind fun t352 => (some t352)) else (some false)) else (some false)) else (some false)))) else ((strings_Repeat.f (⟨#[101]⟩ : ByteArray) (x335006.length : Int)).bind fun t353 => (some false))))) else (some false))))
end
def ah.f (KF : Int → ByteArray → ByteArray → Int → Int → Int → List (dS) → Int → ByteArray → Option (Bool)) (k : Nat) (a0_0 : Int) (a0_1 : ByteArray) (a0_2 : ByteArray) (a0_3 : Int) (a0_4 : Int) (a0_5 : Int) (l0_6 : List (dS)) (a0_7 : Int) : Option (Bool) := if a0_0 = 1 then (ah.j0 KF k (a0_1.toList == ([] : List UInt8)) (a0_3 == 0) (⟨#[]⟩ : ByteArray) a0_0 (a0_0 == 1) a0_0 a0_1 a0_2 a0_3 a0_4 a0_5 l0_6 a0_7) else (if a0_0 = 2 then (ah.j0 KF k (a0_1.toList == ([] : List UInt8)) (a0_3 == 0) (⟨#[]⟩ : ByteArray) a0_0 (a0_0 == 2) a0_0 a0_1 a0_2 a0_3 a0_4 a0_5 l0_6 a0_7) else (if a0_0 = 3 then (ah.j0 KF k (a0_1.toList == ([] : List UInt8)) (a0_3 == 0) (⟨#[]⟩ : ByteArray) a0_0 (a0_0 == 3) a0_0 a0_1 a0_2 a0_3 a0_4 a0_5 l0_6 a0_7) else (if a0_0 = 4 then (ah.j0 KF k (a0_1.toList == ([] : List UInt8)) (a0_3 == 0) (⟨#[]⟩ : ByteArray) a0_0 (a0_0 == 4) a0_0 a0_1 a0_2 a0_3 a0_4 a0_5 l0_6 a0_7) else (ah.j0 KF k (a0_1.toList == ([] : List UInt8)) (a0_3 == 0) (⟨#[]⟩ : ByteArray) a0_0 (a0_0 == 5) a0_0 a0_1 a0_2 a0_3 a0_4 a0_5 l0_6 a0_7))))
theorem ah.bI (KF KF' : Int → ByteArray → ByteArray → Int → Int → Int → List (dS) → Int → ByteArray → Option (Bool)) (hK : ∀ y0 y1 y2 y3 y4 y5 y6 y7 y8, LeO (KF y0 y1 y2 y3 y4 y5 y6 y7 y8) (KF' y0 y1 y2 y3 y4 y5 y6 y7 y8)) : ∀ k, (∀ y0 y1 y2 y3 y4 y5 y6 y7 y8 y9 y10 y11 y12, LeO (ah.j0 KF k y0 y1 y2 y3 y4 y5 y6 y7 y8 y9 y10 y11 y12) (ah.j0 KF' (k + 1) y0 y1 y2 y3 y4 y5 y6 y7 y8 y9 y10 y11 y12)) ∧ (∀ y0 y1 y2 y3 y4 y5 y6 y7 y8 y9 y10 y11 y12, LeO (ah.j1 KF k y0 y1 y2 y3 y4 y5 y6 y7 y8 y9 y10 y11 y12) (ah.j1 KF' (k + 1) y0 y1 y2 y3 y4 y5 y6 y7 y8 y9 y10 y11 y12)) ∧ (∀ y0 y1 y2 y3 y4 y5 y6 y7 y8 y9 y10 y11 y12, LeO (ah.j2 KF k y0 y1 y2 y3 y4 y5 y6 y7 y8 y9 y10 y11 y12) (ah.j2 KF' (k + 1) y0 y1 y2 y3 y4 y5 y6 y7 y8 y9 y10 y11 y12))
 | 0 => ⟨fun _ _ _ _ _ _ _ _ _ _ _ _ _ r h => by simp [ah.j0] at h, fun _ _ _ _ _ _ _ _ _ _ _ _ _ r h => by simp [ah.j1] at h, fun _ _ _ _ _ _ _ _ _ _ _ _ _ r h => by simp [ah.j2] at h⟩
 | k + 1 => by
  obtain ⟨ih0, ih1, ih2⟩ := ah.bI KF KF' hK k
  refine ⟨?_, ?_, ?_⟩
  ·intro y0 y1 y2 y3 y4 y5 y6 y7 y8 y9 y10 y11 y12
   unfold ah.j0
   repeat' first
   | (with_reducible exact ih0 _ _ _ _ _ _ _ _ _ _ _ _ _)
   | (with_reducible exact ih1 _ _ _ _ _ _ _ _ _ _ _ _ _)
   | (with_reducible exact ih2 _ _ _ _ _ _ _ _ _ _ _ _ _)
   | (with_reducible exact bE.mono _ _ _)
   | (with_reducible exact ay.mono _ _ _)
   | (with_reducible exact hK _ _ _ _ _ _ _ _ _)
   | (with_reducible exact LeO.refl _)
   | (with_reducible exact LeO.none _)
   | (with_reducible refine LeO.ite ?_ ?_)
   | (with_reducible refine LeO.bind ?_ (fun _ => ?_))
   | exact ih0 _ _ _ _ _ _ _ _ _ _ _ _ _
   | exact ih1 _ _ _ _ _ _ _ _ _ _ _ _ _
   | exact ih2 _ _ _ _ _ _ _ _ _ _ _ _ _
   | exact bE.mono _ _ _
   | exact ay.mono _ _ _
   | exact hK _ _ _ _ _ _ _ _ _
   | exact LeO.none _
   | refine LeO.ite ?_ ?_
   | refine LeO.bind ?_ (fun _ => ?_)
  ·intro y0 y1 y2 y3 y4 y5 y6 y7 y8 y9 y10 y11 y12
   unfold ah.j1
   repeat' first
   | (with_reducible exact ih0 _ _ _ _ _ _ _ _ _ _ _ _ _)
   | (with_reducible exact ih1 _ _ _ _ _ _ _ _ _ _ _ _ _)
   | (with_reducible exact ih2 _ _ _ _ _ _ _ _ _ _ _ _ _)
   | (with_reducible exact bE.mono _ _ _)
   | (with_reducible exact ay.mono _ _ _)
   | (with_reducible exact hK _ _ _ _ _ _ _ _ _)
   | (with_reducible exact LeO.refl _)
   | (with_reducible exact LeO.none _)
   | (with_reducible refine LeO.ite ?_ ?_)
   | (with_reducible refine LeO.bind ?_ (fun _ => ?_))
   | exact ih0 _ _ _ _ _ _ _ _ _ _ _ _ _
   | exact ih1 _ _ _ _ _ _ _ _ _ _ _ _ _
   | exact ih2 _ _ _ _ _ _ _ _ _ _ _ _ _
   | exact bE.mono _ _ _
   | exact ay.mono _ _ _
   | exact hK _ _ _ _ _ _ _ _ _
   | exact LeO.none _
   | refine LeO.ite ?_ ?_
   | refine LeO.bind ?_ (fun _ => ?_)
  intro y0 y1 y2 y3 y4 y5 y6 y7 y8 y9 y10 y11 y12
  unfold ah.j2
  repeat' first
  | (with_reducible exact ih0 _ _ _ _ _ _ _ _ _ _ _ _ _)
  | (with_reducible exact ih1 _ _ _ _ _ _ _ _ _ _ _ _ _)
  | (with_reducible exact ih2 _ _ _ _ _ _ _ _ _ _ _ _ _)
  | (with_reducible exact bE.mono _ _ _)
  | (with_reducible exact ay.mono _ _ _)
  | (with_reducible exact hK _ _ _ _ _ _ _ _ _)
  | (with_reducible exact LeO.refl _)
  | (with_reducible exact LeO.none _)
  | (with_reducible refine LeO.ite ?_ ?_)
  | (with_reducible refine LeO.bind ?_ (fun _ => ?_))
  | exact ih0 _ _ _ _ _ _ _ _ _ _ _ _ _
  | exact ih1 _ _ _ _ _ _ _ _ _ _ _ _ _
  | exact ih2 _ _ _ _ _ _ _ _ _ _ _ _ _
  | exact bE.mono _ _ _
  | exact ay.mono _ _ _
  | exact hK _ _ _ _ _ _ _ _ _
  | exact LeO.none _
  | refine LeO.ite ?_ ?_
  | refine LeO.bind ?_ (fun _ => ?_)
theorem ah.mono (KF KF' : Int → ByteArray → ByteArray → Int → Int → Int → List (dS) → Int → ByteArray → Option (Bool)) (hK : ∀ y0 y1 y2 y3 y4 y5 y6 y7 y8, LeO (KF y0 y1 y2 y3 y4 y5 y6 y7 y8) (KF' y0 y1 y2 y3 y4 y5 y6 y7 y8)) : ∀ a0 a1 a2 a3 a4 a5 a6 a7 k, LeO (ah.f KF k a0 a1 a2 a3 a4 a5 a6 a7) (ah.f KF' (k + 1) a0 a1 a2 a3 a4 a5 a6 a7) := by
 intro a0 a1 a2 a3 a4 a5 a6 a7 k
 obtain ⟨ih0, ih1, ih2⟩ := ah.bI KF KF' hK k
 unfold ah.f
 repeat' first
   | (with_reducible exact ih0 _ _ _ _ _ _ _ _ _ _ _ _ _)
   | (with_reducible exact ih1 _ _ _ _ _ _ _ _ _ _ _ _ _)
   | (with_reducible exact ih2 _ _ _ _ _ _ _ _ _ _ _ _ _)
   | (with_reducible exact bE.mono _ _ _)
   | (with_reducible exact ay.mono _ _ _)
   | (with_reducible exact hK _ _ _ _ _ _ _ _ _)
   | (with_reducible exact LeO.refl _)
   | (with_reducible exact LeO.none _)
   | (with_reducible refine LeO.ite ?_ ?_)
   | (with_reducible refine LeO.bind ?_ (fun _ => ?_))
   | exact ih0 _ _ _ _ _ _ _ _ _ _ _ _ _
   | exact ih1 _ _ _ _ _ _ _ _ _ _ _ _ _
   | exact ih2 _ _ _ _ _ _ _ _ _ _ _ _ _
   | exact bE.mono _ _ _
   | exact ay.mono _ _ _
   | exact hK _ _ _ _ _ _ _ _ _
   | exact LeO.none _
   | refine LeO.ite ?_ ?_
   | refine LeO.bind ?_ (fun _ => ?_)
def ah.T1 : Bool × List (List Nat × List Nat) := (true, [([], []), ([0], [0]), ([1], [1]), ([2], [2]), ([], []), ([4], [4]), ([5], [5]), ([6], [6]), ([3, 0, 1, 2, 3], [3]), ([7, 8, 0, 1, 2, 3, 4, 5, 6, 7, 8], [7])])
def ah.B1 : List Nat := [0, 1, 3, 7, 0, 16, 48, 112, 15, 511]
theorem ah.uz : iy .any (opsOf Tryz.f94 1) = ah.T1 := by kernel_rfl
theorem ah.qD : gm ah.T1.2 ah.B1 = true := by kernel_rfl
def ah.T23 : Bool × List (List Nat × List Nat) := (true, [([], []), ([], []), ([1], [1]), ([2], [2]), ([0, 3, 0], [0, 3]), ([4, 4], [4]), ([5], [5]), ([6, 5], [5, 6]), ([7, 5], [5, 7]), ([8, 5, 5], [5, 8]), ([5, 9], [5, 9]), ([], []), ([11], [11]), ([12], [12]), ([13, 9], [13]), ([10, 14, 0, 1, 2, 3, 4, 5, 6, 7, 8, 9, 10], [10]), ([14, 15, 0, 1, 2, 3, 4, 5, 6, 7, 8, 9, 10, 11, 12, 13, 14, 15], [14])])
def ah.B23 : List Nat := [0, 0, 2, 6, 15, 31, 63, 127, 255, 511, 1023, 0, 2048, 6144, 15359, 32767, 65535]
theorem ah.qa : iy .any (opsOf Tryz.f94 23) = ah.T23 := by kernel_rfl
theorem ah.om : gm ah.T23.2 ah.B23 = true := by kernel_rfl
set_option maxHeartbeats 8000000 in
set_option maxRecDepth 100000 in
theorem ah.calls (KK : ag.HK) (k : Nat) (a0_0 : Int) (a0_1 : ByteArray) (a0_2 : ByteArray) (a0_3 : Int) (a0_4 : Int) (a0_5 : Int) (A0_6 : Option Addr) (c0_6 : Nat) (l0_6 : List (dS)) (a0_7 : Int) (r : Bool) (w : World) (hr0_6 : Kd.C jo w A0_6 l0_6.length l0_6) (hc0_6 : l0_6.length ≤ c0_6) (hsh : Sh w) (h : ah.f KK.f k a0_0 a0_1 a0_2 a0_3 a0_4 a0_5 l0_6 a0_7 = some r) :
  Calls Tryz.prog 94 #[.agg #[.int .i64 a0_0, .string a0_1, .string a0_2, .int .i64 a0_3, .int .i64 a0_4, .int .i64 a0_5, .slice A0_6 l0_6.length c0_6, .int .i64 a0_7]] w fun e w' => e = .returned (.bool r) ∧ Below w.heap.size w w' := by
 have hu105 := Tryz.underlying105
 have Cm := am hr0_6
 have Cn := am hc0_6
 clear hr0_6 hc0_6
 have HSH := am hsh; clear hsh
 have HB := am (Below.refl w.heap.size w)
 have H := h
 clear h
 unfold ah.f at H
 have Ix := am H; clear H
 go_enter Tryz.func94, Tryz.ntmps94
 try go_wp2_with (first | ((with_reducible refine dH (N := 1) rfl ?_); (try (refine dz (by rfl) ?_; dsimp only)); refine dR ?hg (N := 1) ?hd (cs := #[.int .i64 a0_0, .string a0_1, .string a0_2, .int .i64 a0_3, .int .i64 a0_4, .int .i64 a0_5, .slice A0_6 l0_6.length c0_6, .int .i64 a0_7]) (t := 105) ?hr ?_; (case hd => rfl); (case hg => rfl); (case hr => first | (go_simp; done) | (go_simp; rfl)); intro Ci hg w3 hbox hb; have Cb := am hbox; have Du := am (bsz hg : w.heap.size ≤ Ci); have Jj := Du; replace HB := ho hb; clear hb hbox hg))
 replace Cb := am (bB Cb.out); replace HB := am (bg HB.out)
 refine eH (n := 10) (S := Sb8 Ci (.int .i64 a0_0) (.string a0_1) (.string a0_2) (.int .i64 a0_3) (.int .i64 a0_4) (.int .i64 a0_5) (.slice A0_6 l0_6.length c0_6) (.int .i64 a0_7)) (ds := []) #[F_, F_, F_, F_, F_, F_, F_, F_, F_, F_] (by kernel_rfl) rfl rfl ⟨(ae Cb.out 0).trans rfl, (ae Cb.out 1).trans rfl, (ae Cb.out 2).trans rfl, (ae Cb.out 3).trans rfl, (ae Cb.out 4).trans rfl, (ae Cb.out 5).trans rfl, (ae Cb.out 6).trans rfl, (ae Cb.out 7).trans rfl⟩ (fun hHeld => ?_); refine dJ ah.uz ah.qD (fun HT_ HW_ => ?_)
 generalize w3.drew = w4 at Cb HB hHeld ⊢
 refine pv 0 6 ?_
 refine pv 1 7 ?_
 refine pv 4 10 ?_
 refine pv 5 11 ?_
 refine tv8 2 8 hHeld ?_
 refine pv 3 9 ?_
 refine pv 8 3 ?_
 refine tv8 6 12 hHeld ?_
 refine pv 7 13 ?_
 refine pv 9 4 ?_
 refine fF (eF HT_.out (by kernel_rfl)) ?_
 have Z5 := dD Cb.out
 go_upto_if 17 with (fail)
 go_cut [17] (fun v17 wc => ∃ (kq : Nat) (x17_1 : Bool), v17 = .bool x17_1 ∧ aa (ah.j0 KK.f kq (a0_1.toList == ([] : List UInt8)) (a0_3 == 0) (⟨#[]⟩ : ByteArray) a0_0 x17_1 a0_0 a0_1 a0_2 a0_3 a0_4 a0_5 l0_6 a0_7 = some r) ∧ aa (kq ≤ k) ∧ aa (wc.heap[Ci]? = some (.cells #[.int .i64 a0_0, .string a0_1, .string a0_2, .int .i64 a0_3, .int .i64 a0_4, .int .i64 a0_5, (.slice A0_6 l0_6.length c0_6), .int .i64 a0_7] 105 (0, 0))) ∧ aa (Below w.heap.size w wc))
 case first =>
  have H := Ix.out
  clear Ix
  revert H; refine iQ (fun Dh Iy H => ?_) fun c6 Dh Iy H => ?_
  ·(first | rw [Dh] | (simp only [bu, bv]; rw [Dh]) | skip)
   have H' := am H; clear H
   go_wp2
   go_meet
   case rel => exact ⟨_, ((a0_0 == 1)), rs, H', ⟨by first | omega | exact Nat.le_refl _⟩, ⟨bk Cb.out⟩, ⟨bl⟩⟩
  (first | rw [Dh] | (simp only [bu, bv]; rw [Dh]) | skip)
  revert H; refine iQ (fun Iz Ja H => ?_) fun c7 Iz Ja H => ?_
  ·have H' := am H; clear H
   go_wp2
   go_meet
   case rel => exact ⟨_, ((a0_0 == 2)), rs, H', ⟨by first | omega | exact Nat.le_refl _⟩, ⟨bk Cb.out⟩, ⟨bl⟩⟩
  revert H; refine iQ (fun Jb Jc H => ?_) fun c8 Jb Jc H => ?_
  ·have H' := am H; clear H
   go_wp2
   go_meet
   case rel => exact ⟨_, ((a0_0 == 3)), rs, H', ⟨by first | omega | exact Nat.le_refl _⟩, ⟨bk Cb.out⟩, ⟨bl⟩⟩
  revert H; refine iQ (fun Jd Je H => ?_) fun c9 Jd Je H => ?_
  ·have H' := am H; clear H
   go_wp2
   go_meet
   case rel => exact ⟨_, ((a0_0 == 4)), rs, H', ⟨by first | omega | exact Nat.le_refl _⟩, ⟨bk Cb.out⟩, ⟨bl⟩⟩
  have H' := am H; clear H
  go_wp2
  go_meet
  case rel => exact ⟨_, ((a0_0 == 5)), rs, H', ⟨by first | omega | exact Nat.le_refl _⟩, ⟨bk Cb.out⟩, ⟨bl⟩⟩
 case rest => as_aux_lemma =>
  clear Ix
  try clear Z5
  obtain ⟨kq, x17_1, rfl, HA, Dt, Cb, HB⟩ := hcut
  cases kq with
  | zero => exact absurd HA.out (by simp [ah.j0])
  | succ kj1 =>
   have H := HA.out
   clear HA
   simp only [ah.j0] at H
   replace H := iT H; rcases H with ⟨rfl, H⟩ | ⟨rfl, H⟩
   ·revert H; refine bj fun t335 Io H => ?_
    revert H; refine iK (fun Dv Dw Dx H => ?_) fun Dv Dw Dx Jf H => ?_
    ·replace H := iT H; rcases H with ⟨rfl, H⟩ | ⟨rfl, H⟩
     ·revert H; refine iL (fun Dy Dz Ea H => ?_) fun Kr Dy Dz Ea H => ?_
      ·revert H; refine bj fun t336 Jx H => ?_
       obtain rfl := Option.some.inj H
       have Ks := dD Cb.out
       go_wp2_with (first | ((with_reducible refine c_ 51 ?_); refine gc 51 (some 29) Tryz.func51 (bE.calls _ _ _ _ _ Io.out) ?_; rintro e w' ⟨rfl, ⟨nd, rfl⟩⟩; refine ⟨_, rfl, ?_⟩) | (go_at_call 83; (with_reducible refine (KK.calls _ _ _ _ _ _ _ _ _ _ _ _ _ ?Cc ?Ce ?Cj Jx.out).mono ?_); (case Cc => exact Kd.dK Cm.out bl); (case Ce => exact Cn.out); (case Cj => exact Sh.below HSH.out bl); rintro e w17 ⟨rfl, hb⟩; replace Cb := bo Cb hb; replace HB := ho hb; clear hb))
       go_ret
       exact ⟨er, bl⟩
      obtain rfl := Option.some.inj H
      have Kt := dD Cb.out
      go_wp2_with (first | ((with_reducible refine c_ 51 ?_); refine gc 51 (some 29) Tryz.func51 (bE.calls _ _ _ _ _ Io.out) ?_; rintro e w' ⟨rfl, ⟨nd, rfl⟩⟩; refine ⟨_, rfl, ?_⟩))
      go_ret
      exact ⟨er, bl⟩
     obtain rfl := Option.some.inj H
     have Ku := dD Cb.out
     go_wp2_with (first | ((with_reducible refine c_ 51 ?_); refine gc 51 (some 29) Tryz.func51 (bE.calls _ _ _ _ _ Io.out) ?_; rintro e w' ⟨rfl, ⟨nd, rfl⟩⟩; refine ⟨_, rfl, ?_⟩))
     go_ret
     exact ⟨er, bl⟩
    obtain rfl := Option.some.inj H
    have Kv := dD Cb.out
    go_wp2_with (first | ((with_reducible refine c_ 51 ?_); refine gc 51 (some 29) Tryz.func51 (bE.calls _ _ _ _ _ Io.out) ?_; rintro e w' ⟨rfl, ⟨nd, rfl⟩⟩; refine ⟨_, rfl, ?_⟩))
    go_ret
    exact ⟨er, bl⟩
   have Dp := am H; clear H
   go_upto_if 30 with (fail)
   go_cut [30] (fun v30 wc => ∃ (kq : Nat) (x30_20 : Bool), v30 = .bool x30_20 ∧ aa (ah.j1 KK.f kq (a0_1.toList == ([] : List UInt8)) (a0_3 == 0) (⟨#[]⟩ : ByteArray) a0_0 x30_20 a0_0 a0_1 a0_2 a0_3 a0_4 a0_5 l0_6 a0_7 = some r) ∧ aa (kq ≤ kj1) ∧ aa (wc.heap[Ci]? = some (.cells #[.int .i64 a0_0, .string a0_1, .string a0_2, .int .i64 a0_3, .int .i64 a0_4, .int .i64 a0_5, (.slice A0_6 l0_6.length c0_6), .int .i64 a0_7] 105 (0, 0))) ∧ aa (Below w.heap.size w wc))
   case first =>
    have H := Dp.out
    clear Dp
    revert H; refine iQ (fun Dc Eb H => ?_) fun Kw Dc Eb H => ?_
    ·(first | rw [Dc] | (simp only [bu, bv]; rw [Dc]) | skip)
     have H' := am H; clear H
     go_wp2
     go_meet
     case rel => exact ⟨_, ((a0_0 == 6)), rs, H', ⟨by have := Dt.out; first | omega | exact Nat.le_refl _⟩, ⟨bk Cb.out⟩, ⟨bl⟩⟩
    (first | rw [Dc] | (simp only [bu, bv]; rw [Dc]) | skip)
    have H' := am H; clear H
    go_wp2
    go_meet
    case rel => exact ⟨_, ((a0_0 == 7)), rs, H', ⟨by have := Dt.out; first | omega | exact Nat.le_refl _⟩, ⟨bk Cb.out⟩, ⟨bl⟩⟩
   case rest => as_aux_lemma =>
    clear Dp
    try clear Z5
    obtain ⟨kq, x30_20, rfl, HA, Di, Cb, HB⟩ := hcut
    cases kq with
    | zero => exact absurd HA.out (by simp [ah.j1])
    | succ kj20 =>
     have H := HA.out
     clear HA
     simp only [ah.j1] at H
     replace H := iT H; rcases H with ⟨rfl, H⟩ | ⟨rfl, H⟩
     ·revert H; refine bj fun t337 Ip H => ?_
      replace H := iT H; rcases H with ⟨rfl, H⟩ | ⟨rfl, H⟩
      ·revert H; refine iR (fun Ec Ed H => ?_) fun Ec Ed Jk H => ?_
       ·revert H; refine iL (fun Ee Ef Eg H => ?_) fun Kx Ee Ef Eg H => ?_
        ·revert H; refine bj fun t338 Jy H => ?_
         obtain rfl := Option.some.inj H
         have Ky := dD Cb.out
         go_wp2_with (first | ((with_reducible refine c_ 49 ?_); refine gc 49 (some 36) Tryz.func49 (df.calls _ _ _ ?Cc Ip.out) ?_; (case Cc => exact Sh.below HSH.out bl); rintro e w30 ⟨rfl, hb⟩; refine ⟨_, rfl, ?_⟩; replace Cb := bo Cb hb; replace HB := ho hb; clear hb; have Kz := dD Cb.out) | (go_at_call 83; (with_reducible refine (KK.calls _ _ _ _ _ _ _ _ _ _ _ _ _ ?Cc ?Ce ?Cj Jy.out).mono ?_); (case Cc => exact cb Cm.out); (case Ce => exact Cn.out); (case Cj => exact Sh.below HSH.out bl); rintro e w32 ⟨rfl, hb⟩; replace Cb := bo Cb hb; replace HB := ho hb; clear hb))
         go_ret
         exact ⟨er, bl⟩
        obtain rfl := Option.some.inj H
        have La := dD Cb.out
        go_wp2_with (first | ((with_reducible refine c_ 49 ?_); refine gc 49 (some 36) Tryz.func49 (df.calls _ _ _ ?Cc Ip.out) ?_; (case Cc => exact Sh.below HSH.out bl); rintro e w34 ⟨rfl, hb⟩; refine ⟨_, rfl, ?_⟩; replace Cb := bo Cb hb; replace HB := ho hb; clear hb; have Lc := dD Cb.out))
        go_ret
        exact ⟨er, bl⟩
       obtain rfl := Option.some.inj H
       have Ld := dD Cb.out
       go_wp2_with (first | ((with_reducible refine c_ 49 ?_); refine gc 49 (some 36) Tryz.func49 (df.calls _ _ _ ?Cc Ip.out) ?_; (case Cc => exact Sh.below HSH.out bl); rintro e w37 ⟨rfl, hb⟩; refine ⟨_, rfl, ?_⟩; replace Cb := bo Cb hb; replace HB := ho hb; clear hb))
       go_ret
       exact ⟨er, bl⟩
      obtain rfl := Option.some.inj H
      have Lh := dD Cb.out
      go_wp2_with (first | ((with_reducible refine c_ 49 ?_); refine gc 49 (some 36) Tryz.func49 (df.calls _ _ _ ?Cc Ip.out) ?_; (case Cc => exact Sh.below HSH.out bl); rintro e w39 ⟨rfl, hb⟩; refine ⟨_, rfl, ?_⟩; replace Cb := bo Cb hb; replace HB := ho hb; clear hb))
      go_ret
      exact ⟨er, bl⟩
     have Dq := am H; clear H
     go_upto_if 37 with (fail)
     go_cut [37] (fun v37 wc => ∃ (kq : Nat) (x37_39 : Bool), v37 = .bool x37_39 ∧ aa (ah.j2 KK.f kq (a0_1.toList == ([] : List UInt8)) (a0_3 == 0) (⟨#[]⟩ : ByteArray) a0_0 x37_39 a0_0 a0_1 a0_2 a0_3 a0_4 a0_5 l0_6 a0_7 = some r) ∧ aa (kq ≤ kj20) ∧ aa (wc.heap[Ci]? = some (.cells #[.int .i64 a0_0, .string a0_1, .string a0_2, .int .i64 a0_3, .int .i64 a0_4, .int .i64 a0_5, (.slice A0_6 l0_6.length c0_6), .int .i64 a0_7] 105 (0, 0))) ∧ aa (Below w.heap.size w wc))
     case first =>
      have H := Dq.out
      clear Dq
      revert H; refine iQ (fun Df Eh H => ?_) fun Lj Df Eh H => ?_
      ·(first | rw [Df] | (simp only [bu, bv]; rw [Df]) | skip)
       have H' := am H; clear H
       go_wp2
       go_meet
       case rel => exact ⟨_, ((a0_0 == 8)), rs, H', ⟨by have := Dt.out; have := Di.out; first | omega | exact Nat.le_refl _⟩, ⟨bk Cb.out⟩, ⟨bl⟩⟩
      (first | rw [Df] | (simp only [bu, bv]; rw [Df]) | skip)
      revert H; refine iQ (fun Ei Ej H => ?_) fun Ll Ei Ej H => ?_
      ·have H' := am H; clear H
       go_wp2
       go_meet
       case rel => exact ⟨_, ((a0_0 == 9)), rs, H', ⟨by have := Dt.out; have := Di.out; first | omega | exact Nat.le_refl _⟩, ⟨bk Cb.out⟩, ⟨bl⟩⟩
      revert H; refine iQ (fun Ek Em H => ?_) fun Lm Ek Em H => ?_
      ·have H' := am H; clear H
       go_wp2
       go_meet
       case rel => exact ⟨_, ((a0_0 == 10)), rs, H', ⟨by have := Dt.out; have := Di.out; first | omega | exact Nat.le_refl _⟩, ⟨bk Cb.out⟩, ⟨bl⟩⟩
      have H' := am H; clear H
      go_wp2
      go_meet
      case rel => exact ⟨_, ((a0_0 == 11)), rs, H', ⟨by have := Dt.out; have := Di.out; first | omega | exact Nat.le_refl _⟩, ⟨bk Cb.out⟩, ⟨bl⟩⟩
     case rest => as_aux_lemma =>
      clear Dq
      try clear Z5
      obtain ⟨kq, x37_39, rfl, HA, Jz, Cb, HB⟩ := hcut
      cases kq with
      | zero => exact absurd HA.out (by simp [ah.j2])
      | succ kj39 =>
       have H := HA.out
       clear HA
       simp only [ah.j2] at H
       replace H := iT H; rcases H with ⟨rfl, H⟩ | ⟨rfl, H⟩
       ·revert H; refine iK (fun En Eo Ep H => ?_) fun En Eo Ep Jg H => ?_
        ·revert H; refine iR (fun Es Et H => ?_) fun Es Et Jl H => ?_
         ·revert H; refine iL (fun Eu Ew Ey H => ?_) fun Ln Eu Ew Ey H => ?_
          ·revert H; refine bj fun t339 Ka H => ?_
           obtain rfl := Option.some.inj H
           have Lp := dD Cb.out
           go_wp2_with (first | (go_at_call 83; (with_reducible refine (KK.calls _ _ _ _ _ _ _ _ _ _ _ _ _ ?Cc ?Ce ?Cj Ka.out).mono ?_); (case Cc => exact cb Cm.out); (case Ce => exact Cn.out); (case Cj => exact Sh.below HSH.out bl); rintro e w50 ⟨rfl, hb⟩; replace Cb := bo Cb hb; replace HB := ho hb; clear hb))
           go_ret
           exact ⟨er, bl⟩
          obtain rfl := Option.some.inj H
          have Lq := dD Cb.out
          go_wp2
          go_ret
          exact ⟨er, bl⟩
         obtain rfl := Option.some.inj H
         go_wp2
         go_ret
         exact ⟨er, bl⟩
        obtain rfl := Option.some.inj H
        go_wp2
        go_ret
        exact ⟨er, bl⟩
       revert H; refine iQ (fun Ez Ga H => ?_) fun Lr Ez Ga H => ?_
       ·revert H; refine bj fun t340 Iq H => ?_
        revert H; refine bj fun t343 Ir H => ?_
        replace H := iT H; rcases H with ⟨rfl, H⟩ | ⟨rfl, H⟩
        ·revert H; refine iR (fun Gf Gg H => ?_) fun Gf Gg Jm H => ?_
         ·revert H; refine iL (fun Gh Gi Gj H => ?_) fun Ls Gh Gi Gj H => ?_
          ·revert H; refine bj fun t344 Kb H => ?_
           obtain rfl := Option.some.inj H
           try go_wp2
           replace Cb := am (bB Cb.out); replace HB := am (bg HB.out)
           refine eH (n := 7) (S := Sb8 Ci (.int .i64 a0_0) (.string a0_1) (.string a0_2) (.int .i64 a0_3) (.int .i64 a0_4) (.int .i64 a0_5) (.slice A0_6 l0_6.length c0_6) (.int .i64 a0_7)) (ds := []) #[F_, F_, F_, F_, F_, F_, F_] (by kernel_rfl) rfl rfl ⟨(ae Cb.out 0).trans rfl, (ae Cb.out 1).trans rfl, (ae Cb.out 2).trans rfl, (ae Cb.out 3).trans rfl, (ae Cb.out 4).trans rfl, (ae Cb.out 5).trans rfl, (ae Cb.out 6).trans rfl, (ae Cb.out 7).trans rfl⟩ (fun hHeld => ?_)
           generalize wc.drew = w59 at Cb HB hHeld ⊢
           refine pv 1 45 ?_
           refine pv 2 46 ?_
           refine tv8 3 47 hHeld ?_
           refine ov 0 44 (fun K hK => ?_)
           refine gk Tryz.func108 (fC.calls _ _ Iq.out) ?_
           rintro e w60 ⟨v341, rfl, ho0, hb⟩
           refine ⟨_, rfl, ?_⟩
           have Cf := am (Kd.bz ho0 (az bl)); replace Cb := bo Cb hb; replace HB := ho hb
           obtain ⟨Ke, Kf, Gk⟩ := Kd.aI Cf.out
           (first | subst Gk | (injection Gk with f1_ f2_ f3_; have f4_ := f1_.symm; have f5_ := f3_.symm; clear f1_ f2_ f3_; subst f4_; subst f5_))
           refine hK.out _ _ (gQ Cb.out) (fun hHeld => ?_)
           clear hK K
           refine dn (a' := ?_) ?_ ?_
           rotate_left
           ·show Act.put _ (some 44) _ = _
            simp only [Act.put, z1, z2, z3, bu, bv]
            rfl
           refine ov 4 48 (fun K hK => ?_)
           refine gk Tryz.func52 (ay.calls _ _ _ _ _ _ _ ?Cc ?Ce Ir.out) ?_
           (case Cc => exact cc (Kd.af Cf.out).2.2)
           (case Ce => exact (Kd.af Cf.out).2.1)
           rintro e w' ⟨rfl, ⟨nd, rfl⟩⟩
           refine ⟨_, rfl, ?_⟩
           refine hK.out _ _ (gQ Cb.out) (fun hHeld => ?_)
           clear hK K
           refine dn (a' := ?_) ?_ ?_
           rotate_left
           ·show Act.put _ (some 48) _ = _
            simp only [Act.put, z1, z2, z3, bu, bv]
            rfl
           refine pv 5 3 ?_
           refine pv 6 5 ?_
           refine fF (by kernel_rfl) ?_
           have Lu := dD Cb.out
           try go_wp2_with (first | (go_at_call 83; (with_reducible refine (KK.calls _ _ _ _ _ _ _ _ _ _ _ _ _ ?Cc ?Ce ?Cj Kb.out).mono ?_); (case Cc => exact Kd.dK Cm.out bl); (case Ce => exact Cn.out); (case Cj => exact Sh.below HSH.out bl); rintro e w63 ⟨rfl, hb⟩; refine r2_ hb Cf Cb ?_; clear Cf Cb; intro Cf Cb; replace HB := ho hb; clear hb))
           go_ret
           exact ⟨er, bl⟩
          obtain rfl := Option.some.inj H
          try go_wp2
          replace Cb := am (bB Cb.out); replace HB := am (bg HB.out)
          refine eH (n := 7) (S := Sb8 Ci (.int .i64 a0_0) (.string a0_1) (.string a0_2) (.int .i64 a0_3) (.int .i64 a0_4) (.int .i64 a0_5) (.slice A0_6 l0_6.length c0_6) (.int .i64 a0_7)) (ds := []) #[F_, F_, F_, F_, F_, F_, F_] (by kernel_rfl) rfl rfl ⟨(ae Cb.out 0).trans rfl, (ae Cb.out 1).trans rfl, (ae Cb.out 2).trans rfl, (ae Cb.out 3).trans rfl, (ae Cb.out 4).trans rfl, (ae Cb.out 5).trans rfl, (ae Cb.out 6).trans rfl, (ae Cb.out 7).trans rfl⟩ (fun hHeld => ?_)
          generalize wc.drew = w64 at Cb HB hHeld ⊢
          refine pv 1 45 ?_
          refine pv 2 46 ?_
          refine tv8 3 47 hHeld ?_
          refine ov 0 44 (fun K hK => ?_)
          refine gk Tryz.func108 (fC.calls _ _ Iq.out) ?_
          rintro e w65 ⟨v341, rfl, ho0, hb⟩
          refine ⟨_, rfl, ?_⟩
          have Cf := am (Kd.bz ho0 (az bl)); replace Cb := bo Cb hb; replace HB := ho hb
          obtain ⟨Kg, Kh, Gl⟩ := Kd.aI Cf.out
          (first | subst Gl | (injection Gl with f1_ f2_ f3_; have f4_ := f1_.symm; have f5_ := f3_.symm; clear f1_ f2_ f3_; subst f4_; subst f5_))
          refine hK.out _ _ (gQ Cb.out) (fun hHeld => ?_)
          clear hK K
          refine dn (a' := ?_) ?_ ?_
          rotate_left
          ·show Act.put _ (some 44) _ = _
           simp only [Act.put, z1, z2, z3, bu, bv]
           rfl
          refine ov 4 48 (fun K hK => ?_)
          refine gk Tryz.func52 (ay.calls _ _ _ _ _ _ _ ?Cc ?Ce Ir.out) ?_
          (case Cc => exact cc (Kd.af Cf.out).2.2)
          (case Ce => exact (Kd.af Cf.out).2.1)
          rintro e w' ⟨rfl, ⟨nd, rfl⟩⟩
          refine ⟨_, rfl, ?_⟩
          refine hK.out _ _ (gQ Cb.out) (fun hHeld => ?_)
          clear hK K
          refine dn (a' := ?_) ?_ ?_
          rotate_left
          ·show Act.put _ (some 48) _ = _
           simp only [Act.put, z1, z2, z3, bu, bv]
           rfl
          refine pv 5 3 ?_
          refine pv 6 5 ?_
          refine fF (by kernel_rfl) ?_
          have Ly := dD Cb.out
          try go_wp2
          go_ret
          exact ⟨er, bl⟩
         obtain rfl := Option.some.inj H
         try go_wp2
         replace Cb := am (bB Cb.out); replace HB := am (bg HB.out)
         refine eH (n := 7) (S := Sb8 Ci (.int .i64 a0_0) (.string a0_1) (.string a0_2) (.int .i64 a0_3) (.int .i64 a0_4) (.int .i64 a0_5) (.slice A0_6 l0_6.length c0_6) (.int .i64 a0_7)) (ds := []) #[F_, F_, F_, F_, F_, F_, F_] (by kernel_rfl) rfl rfl ⟨(ae Cb.out 0).trans rfl, (ae Cb.out 1).trans rfl, (ae Cb.out 2).trans rfl, (ae Cb.out 3).trans rfl, (ae Cb.out 4).trans rfl, (ae Cb.out 5).trans rfl, (ae Cb.out 6).trans rfl, (ae Cb.out 7).trans rfl⟩ (fun hHeld => ?_)
         generalize wc.drew = w68 at Cb HB hHeld ⊢
         refine pv 1 45 ?_
         refine pv 2 46 ?_
         refine tv8 3 47 hHeld ?_
         refine ov 0 44 (fun K hK => ?_)
         refine gk Tryz.func108 (fC.calls _ _ Iq.out) ?_
         rintro e w69 ⟨v341, rfl, ho0, hb⟩
         refine ⟨_, rfl, ?_⟩
         have Cf := am (Kd.bz ho0 (az bl)); replace Cb := bo Cb hb; replace HB := ho hb
         obtain ⟨Ki, Kj, Gm⟩ := Kd.aI Cf.out
         (first | subst Gm | (injection Gm with f1_ f2_ f3_; have f4_ := f1_.symm; have f5_ := f3_.symm; clear f1_ f2_ f3_; subst f4_; subst f5_))
         refine hK.out _ _ (gQ Cb.out) (fun hHeld => ?_)
         clear hK K
         refine dn (a' := ?_) ?_ ?_
         rotate_left
         ·show Act.put _ (some 44) _ = _
          simp only [Act.put, z1, z2, z3, bu, bv]
          rfl
         refine ov 4 48 (fun K hK => ?_)
         refine gk Tryz.func52 (ay.calls _ _ _ _ _ _ _ ?Cc ?Ce Ir.out) ?_
         (case Cc => exact cc (Kd.af Cf.out).2.2)
         (case Ce => exact (Kd.af Cf.out).2.1)
         rintro e w' ⟨rfl, ⟨nd, rfl⟩⟩
         refine ⟨_, rfl, ?_⟩
         refine hK.out _ _ (gQ Cb.out) (fun hHeld => ?_)
         clear hK K
         refine dn (a' := ?_) ?_ ?_
         rotate_left
         ·show Act.put _ (some 48) _ = _
          simp only [Act.put, z1, z2, z3, bu, bv]
          rfl
         refine pv 5 3 ?_
         refine pv 6 5 ?_
         refine fF (by kernel_rfl) ?_
         try go_wp2
         go_ret
         exact ⟨er, bl⟩
        obtain rfl := Option.some.inj H
        try go_wp2
        replace Cb := am (bB Cb.out); replace HB := am (bg HB.out)
        refine eH (n := 7) (S := Sb8 Ci (.int .i64 a0_0) (.string a0_1) (.string a0_2) (.int .i64 a0_3) (.int .i64 a0_4) (.int .i64 a0_5) (.slice A0_6 l0_6.length c0_6) (.int .i64 a0_7)) (ds := []) #[F_, F_, F_, F_, F_, F_, F_] (by kernel_rfl) rfl rfl ⟨(ae Cb.out 0).trans rfl, (ae Cb.out 1).trans rfl, (ae Cb.out 2).trans rfl, (ae Cb.out 3).trans rfl, (ae Cb.out 4).trans rfl, (ae Cb.out 5).trans rfl, (ae Cb.out 6).trans rfl, (ae Cb.out 7).trans rfl⟩ (fun hHeld => ?_)
        generalize wc.drew = w71 at Cb HB hHeld ⊢
        refine pv 1 45 ?_
        refine pv 2 46 ?_
        refine tv8 3 47 hHeld ?_
        refine ov 0 44 (fun K hK => ?_)
        refine gk Tryz.func108 (fC.calls _ _ Iq.out) ?_
        rintro e w72 ⟨v341, rfl, ho0, hb⟩
        refine ⟨_, rfl, ?_⟩
        have Cf := am (Kd.bz ho0 (az bl)); replace Cb := bo Cb hb; replace HB := ho hb
        obtain ⟨Kk, Kl, Gn⟩ := Kd.aI Cf.out
        (first | subst Gn | (injection Gn with f1_ f2_ f3_; have f4_ := f1_.symm; have f5_ := f3_.symm; clear f1_ f2_ f3_; subst f4_; subst f5_))
        refine hK.out _ _ (gQ Cb.out) (fun hHeld => ?_)
        clear hK K
        refine dn (a' := ?_) ?_ ?_
        rotate_left
        ·show Act.put _ (some 44) _ = _
         simp only [Act.put, z1, z2, z3, bu, bv]
         rfl
        refine ov 4 48 (fun K hK => ?_)
        refine gk Tryz.func52 (ay.calls _ _ _ _ _ _ _ ?Cc ?Ce Ir.out) ?_
        (case Cc => exact cc (Kd.af Cf.out).2.2)
        (case Ce => exact (Kd.af Cf.out).2.1)
        rintro e w' ⟨rfl, ⟨nd, rfl⟩⟩
        refine ⟨_, rfl, ?_⟩
        refine hK.out _ _ (gQ Cb.out) (fun hHeld => ?_)
        clear hK K
        refine dn (a' := ?_) ?_ ?_
        rotate_left
        ·show Act.put _ (some 48) _ = _
         simp only [Act.put, z1, z2, z3, bu, bv]
         rfl
        refine pv 5 3 ?_
        refine pv 6 5 ?_
        refine fF (by kernel_rfl) ?_
        try go_wp2
        go_ret
        exact ⟨er, bl⟩
       revert H; refine iQ (fun Gp Gq H => ?_) fun Ma Gp Gq H => ?_
       ·revert H; refine iK (fun Gs Gu Gv H => ?_) fun Gs Gu Gv Jh H => ?_
        ·revert H; refine iR (fun Gw Gx H => ?_) fun Gw Gx Jn H => ?_
         ·revert H; refine iL (fun Gy Gz Ia H => ?_) fun Mc Gy Gz Ia H => ?_
          ·revert H; refine bj fun t345 Km H => ?_
           obtain rfl := Option.some.inj H
           have Md := dD Cb.out
           go_wp2_with (first | (go_at_call 83; (with_reducible refine (KK.calls _ _ _ _ _ _ _ _ _ _ _ _ _ ?Cc ?Ce ?Cj Km.out).mono ?_); (case Cc => exact cb Cm.out); (case Ce => exact Cn.out); (case Cj => exact Sh.below HSH.out bl); rintro e w80 ⟨rfl, hb⟩; replace Cb := bo Cb hb; replace HB := ho hb; clear hb))
           go_ret
           exact ⟨er, bl⟩
          obtain rfl := Option.some.inj H
          have Me := dD Cb.out
          go_wp2
          go_ret
          exact ⟨er, bl⟩
         obtain rfl := Option.some.inj H
         go_wp2
         go_ret
         exact ⟨er, bl⟩
        obtain rfl := Option.some.inj H
        go_wp2
        go_ret
        exact ⟨er, bl⟩
       revert H; refine iQ (fun Ib Ic H => ?_) fun Mj Ib Ic H => ?_
       ·revert H; refine bj fun t346 Ie H => ?_
        revert H; refine bj fun t349 Ig H => ?_
        replace H := iT H; rcases H with ⟨rfl, H⟩ | ⟨rfl, H⟩
        ·revert H; refine bj fun t350 Iu H => ?_
         revert H; refine bj fun t351 Iw H => ?_
         replace H := iT H; rcases H with ⟨rfl, H⟩ | ⟨rfl, H⟩
         ·revert H; refine iR (fun Ih Ii H => ?_) fun Ih Ii Jo H => ?_
          ·revert H; refine iL (fun Ij Ik Il H => ?_) fun Mo Ij Ik Il H => ?_
           ·revert H; refine bj fun t352 Kn H => ?_
            obtain rfl := Option.some.inj H
            try go_wp2
            replace Cb := am (bB Cb.out); replace HB := am (bg HB.out)
            refine eH (n := 17) (S := Sb8 Ci (.int .i64 a0_0) (.string a0_1) (.string a0_2) (.int .i64 a0_3) (.int .i64 a0_4) (.int .i64 a0_5) (.slice A0_6 l0_6.length c0_6) (.int .i64 a0_7)) (ds := []) #[F_, F_, F_, F_, F_, F_, F_, F_, F_, F_, F_, F_, F_, F_, F_, F_, F_] (by kernel_rfl) rfl rfl ⟨(ae Cb.out 0).trans rfl, (ae Cb.out 1).trans rfl, (ae Cb.out 2).trans rfl, (ae Cb.out 3).trans rfl, (ae Cb.out 4).trans rfl, (ae Cb.out 5).trans rfl, (ae Cb.out 6).trans rfl, (ae Cb.out 7).trans rfl⟩ (fun hHeld => ?_); refine dJ ah.qa ah.om (fun HT_ HW_ => ?_)
            generalize wc.drew = w92 at Cb HB hHeld ⊢
            refine pv 1 54 ?_
            refine pv 2 55 ?_
            refine pv 11 64 ?_
            refine tv8 3 56 hHeld ?_
            refine tv8 12 65 hHeld ?_
            refine pv 13 66 ?_
            refine ov 0 53 (fun K hK => ?_)
            refine gk Tryz.func109 (fu.calls _ _ Ie.out) ?_
            rintro e w93 ⟨v347, rfl, ho0, hb⟩
            refine ⟨_, rfl, ?_⟩
            have Cd := am (Kd.bz ho0 (az bl)); replace Cb := bo Cb hb; replace HB := ho hb
            obtain ⟨Ko, Kp, Im⟩ := Kd.aI Cd.out
            (first | subst Im | (injection Im with f1_ f2_ f3_; have f4_ := f1_.symm; have f5_ := f3_.symm; clear f1_ f2_ f3_; subst f4_; subst f5_))
            refine hK.out _ _ (gQ Cb.out) (fun hHeld => ?_)
            clear hK K
            refine dn (a' := ?_) ?_ ?_
            rotate_left
            ·show Act.put _ (some 53) _ = _
             simp only [Act.put, z1, z2, z3, bu, bv]
             rfl
            refine ov 4 57 (fun K hK => ?_)
            refine gk Tryz.func52 (ay.calls _ _ _ _ _ _ _ ?Cc ?Ce Ig.out) ?_
            (case Cc => exact cc (Kd.af Cd.out).2.2)
            (case Ce => exact (Kd.af Cd.out).2.1)
            rintro e w' ⟨rfl, ⟨nd, rfl⟩⟩
            refine ⟨_, rfl, ?_⟩
            refine hK.out _ _ (gQ Cb.out) (fun hHeld => ?_)
            clear hK K
            refine dn (a' := ?_) ?_ ?_
            rotate_left
            ·show Act.put _ (some 57) _ = _
             simp only [Act.put, z1, z2, z3, bu, bv]
             rfl
            refine pv 5 58 ?_
            refine pv 6 59 ?_
            refine tv8 7 60 hHeld ?_
            refine pv 8 61 ?_
            refine ov 9 62 (fun K hK => ?_)
            refine gk Tryz.func28 (dZ.calls _ _ _ _ _ Iu.out) ?_
            rintro e w' ⟨rfl, ⟨nd, rfl⟩⟩
            refine ⟨_, rfl, ?_⟩
            refine hK.out _ _ (gQ Cb.out) (fun hHeld => ?_)
            clear hK K
            refine dn (a' := ?_) ?_ ?_
            rotate_left
            ·show Act.put _ (some 62) _ = _
             simp only [Act.put, z1, z2, z3, bu, bv]
             rfl
            refine pv 10 63 ?_
            refine ov 14 67 (fun K hK => ?_)
            refine gk Tryz.func82 (strings_Repeat.calls _ _ _ _ Iw.out) ?_
            rintro e w95 ⟨rfl, hb⟩
            refine ⟨_, rfl, ?_⟩
            refine r2_ hb Cd Cb ?_; clear Cd Cb; intro Cd Cb; replace HB := ho hb
            refine hK.out _ _ (gQ Cb.out) (fun hHeld => ?_)
            clear hK K
            refine dn (a' := ?_) ?_ ?_
            rotate_left
            ·show Act.put _ (some 67) _ = _
             simp only [Act.put, z1, z2, z3, bu, bv]
             rfl
            refine pv 15 3 ?_
            refine pv 16 5 ?_
            refine fF (eF HT_.out (by kernel_rfl)) ?_
            have Mp := dD Cb.out
            try go_wp2_with (first | (go_at_call 83; (with_reducible refine (KK.calls _ _ _ _ _ _ _ _ _ _ _ _ _ ?Cc ?Ce ?Cj Kn.out).mono ?_); (case Cc => exact cb Cm.out); (case Ce => exact Cn.out); (case Cj => exact Sh.below HSH.out bl); rintro e w97 ⟨rfl, hb⟩; refine r2_ hb Cd Cb ?_; clear Cd Cb; intro Cd Cb; replace HB := ho hb; clear hb))
            go_ret
            exact ⟨er, bl⟩
           obtain rfl := Option.some.inj H
           try go_wp2
           replace Cb := am (bB Cb.out); replace HB := am (bg HB.out)
           refine eH (n := 17) (S := Sb8 Ci (.int .i64 a0_0) (.string a0_1) (.string a0_2) (.int .i64 a0_3) (.int .i64 a0_4) (.int .i64 a0_5) (.slice A0_6 l0_6.length c0_6) (.int .i64 a0_7)) (ds := []) #[F_, F_, F_, F_, F_, F_, F_, F_, F_, F_, F_, F_, F_, F_, F_, F_, F_] (by kernel_rfl) rfl rfl ⟨(ae Cb.out 0).trans rfl, (ae Cb.out 1).trans rfl, (ae Cb.out 2).trans rfl, (ae Cb.out 3).trans rfl, (ae Cb.out 4).trans rfl, (ae Cb.out 5).trans rfl, (ae Cb.out 6).trans rfl, (ae Cb.out 7).trans rfl⟩ (fun hHeld => ?_); refine dJ ah.qa ah.om (fun HT_ HW_ => ?_)
           generalize wc.drew = w98 at Cb HB hHeld ⊢
           refine pv 1 54 ?_
           refine pv 2 55 ?_
           refine pv 11 64 ?_
           refine tv8 3 56 hHeld ?_
           refine tv8 12 65 hHeld ?_
           refine pv 13 66 ?_
           refine ov 0 53 (fun K hK => ?_)
           refine gk Tryz.func109 (fu.calls _ _ Ie.out) ?_
           rintro e w99 ⟨v347, rfl, ho0, hb⟩
           refine ⟨_, rfl, ?_⟩
           have Cd := am (Kd.bz ho0 (az bl)); replace Cb := bo Cb hb; replace HB := ho hb
           obtain ⟨Jp, Jq, Dj⟩ := Kd.aI Cd.out
           (first | subst Dj | (injection Dj with f1_ f2_ f3_; have f4_ := f1_.symm; have f5_ := f3_.symm; clear f1_ f2_ f3_; subst f4_; subst f5_))
           refine hK.out _ _ (gQ Cb.out) (fun hHeld => ?_)
           clear hK K
           refine dn (a' := ?_) ?_ ?_
           rotate_left
           ·show Act.put _ (some 53) _ = _
            simp only [Act.put, z1, z2, z3, bu, bv]
            rfl
           refine ov 4 57 (fun K hK => ?_)
           refine gk Tryz.func52 (ay.calls _ _ _ _ _ _ _ ?Cc ?Ce Ig.out) ?_
           (case Cc => exact cc (Kd.af Cd.out).2.2)
           (case Ce => exact (Kd.af Cd.out).2.1)
           rintro e w' ⟨rfl, ⟨nd, rfl⟩⟩
           refine ⟨_, rfl, ?_⟩
           refine hK.out _ _ (gQ Cb.out) (fun hHeld => ?_)
           clear hK K
           refine dn (a' := ?_) ?_ ?_
           rotate_left
           ·show Act.put _ (some 57) _ = _
            simp only [Act.put, z1, z2, z3, bu, bv]
            rfl
           refine pv 5 58 ?_
           refine pv 6 59 ?_
           refine tv8 7 60 hHeld ?_
           refine pv 8 61 ?_
           refine ov 9 62 (fun K hK => ?_)
           refine gk Tryz.func28 (dZ.calls _ _ _ _ _ Iu.out) ?_
           rintro e w' ⟨rfl, ⟨nd, rfl⟩⟩
           refine ⟨_, rfl, ?_⟩
           refine hK.out _ _ (gQ Cb.out) (fun hHeld => ?_)
           clear hK K
           refine dn (a' := ?_) ?_ ?_
           rotate_left
           ·show Act.put _ (some 62) _ = _
            simp only [Act.put, z1, z2, z3, bu, bv]
            rfl
           refine pv 10 63 ?_
           refine ov 14 67 (fun K hK => ?_)
           refine gk Tryz.func82 (strings_Repeat.calls _ _ _ _ Iw.out) ?_
           rintro e w101 ⟨rfl, hb⟩
           refine ⟨_, rfl, ?_⟩
           refine r2_ hb Cd Cb ?_; clear Cd Cb; intro Cd Cb; replace HB := ho hb
           refine hK.out _ _ (gQ Cb.out) (fun hHeld => ?_)
           clear hK K
           refine dn (a' := ?_) ?_ ?_
           rotate_left
           ·show Act.put _ (some 67) _ = _
            simp only [Act.put, z1, z2, z3, bu, bv]
            rfl
           refine pv 15 3 ?_
           refine pv 16 5 ?_
           refine fF (eF HT_.out (by kernel_rfl)) ?_
           have Kq := dD Cb.out
           try go_wp2
           go_ret
           exact ⟨er, bl⟩
          obtain rfl := Option.some.inj H
          try go_wp2
          replace Cb := am (bB Cb.out); replace HB := am (bg HB.out)
          refine eH (n := 17) (S := Sb8 Ci (.int .i64 a0_0) (.string a0_1) (.string a0_2) (.int .i64 a0_3) (.int .i64 a0_4) (.int .i64 a0_5) (.slice A0_6 l0_6.length c0_6) (.int .i64 a0_7)) (ds := []) #[F_, F_, F_, F_, F_, F_, F_, F_, F_, F_, F_, F_, F_, F_, F_, F_, F_] (by kernel_rfl) rfl rfl ⟨(ae Cb.out 0).trans rfl, (ae Cb.out 1).trans rfl, (ae Cb.out 2).trans rfl, (ae Cb.out 3).trans rfl, (ae Cb.out 4).trans rfl, (ae Cb.out 5).trans rfl, (ae Cb.out 6).trans rfl, (ae Cb.out 7).trans rfl⟩ (fun hHeld => ?_); refine dJ ah.qa ah.om (fun HT_ HW_ => ?_)
          generalize wc.drew = w103 at Cb HB hHeld ⊢
          refine pv 1 54 ?_
          refine pv 2 55 ?_
          refine pv 11 64 ?_
          refine tv8 3 56 hHeld ?_
          refine tv8 12 65 hHeld ?_
          refine pv 13 66 ?_
          refine ov 0 53 (fun K hK => ?_)
          refine gk Tryz.func109 (fu.calls _ _ Ie.out) ?_
          rintro e w104 ⟨v347, rfl, ho0, hb⟩
          refine ⟨_, rfl, ?_⟩
          have Cd := am (Kd.bz ho0 (az bl)); replace Cb := bo Cb hb; replace HB := ho hb
          obtain ⟨Jr, Js, Dk⟩ := Kd.aI Cd.out
          (first | subst Dk | (injection Dk with f1_ f2_ f3_; have f4_ := f1_.symm; have f5_ := f3_.symm; clear f1_ f2_ f3_; subst f4_; subst f5_))
          refine hK.out _ _ (gQ Cb.out) (fun hHeld => ?_)
          clear hK K
          refine dn (a' := ?_) ?_ ?_
          rotate_left
          ·show Act.put _ (some 53) _ = _
           simp only [Act.put, z1, z2, z3, bu, bv]
           rfl
          refine ov 4 57 (fun K hK => ?_)
          refine gk Tryz.func52 (ay.calls _ _ _ _ _ _ _ ?Cc ?Ce Ig.out) ?_
          (case Cc => exact cc (Kd.af Cd.out).2.2)
          (case Ce => exact (Kd.af Cd.out).2.1)
          rintro e w' ⟨rfl, ⟨nd, rfl⟩⟩
          refine ⟨_, rfl, ?_⟩
          refine hK.out _ _ (gQ Cb.out) (fun hHeld => ?_)
          clear hK K
          refine dn (a' := ?_) ?_ ?_
          rotate_left
          ·show Act.put _ (some 57) _ = _
           simp only [Act.put, z1, z2, z3, bu, bv]
           rfl
          refine pv 5 58 ?_
          refine pv 6 59 ?_
          refine tv8 7 60 hHeld ?_
          refine pv 8 61 ?_
          refine ov 9 62 (fun K hK => ?_)
          refine gk Tryz.func28 (dZ.calls _ _ _ _ _ Iu.out) ?_
          rintro e w' ⟨rfl, ⟨nd, rfl⟩⟩
          refine ⟨_, rfl, ?_⟩
          refine hK.out _ _ (gQ Cb.out) (fun hHeld => ?_)
          clear hK K
          refine dn (a' := ?_) ?_ ?_
          rotate_left
          ·show Act.put _ (some 62) _ = _
           simp only [Act.put, z1, z2, z3, bu, bv]
           rfl
          refine pv 10 63 ?_
          refine ov 14 67 (fun K hK => ?_)
          refine gk Tryz.func82 (strings_Repeat.calls _ _ _ _ Iw.out) ?_
          rintro e w106 ⟨rfl, hb⟩
          refine ⟨_, rfl, ?_⟩
          refine r2_ hb Cd Cb ?_; clear Cd Cb; intro Cd Cb; replace HB := ho hb
          refine hK.out _ _ (gQ Cb.out) (fun hHeld => ?_)
          clear hK K
          refine dn (a' := ?_) ?_ ?_
          rotate_left
          ·show Act.put _ (some 67) _ = _
           simp only [Act.put, z1, z2, z3, bu, bv]
           rfl
          refine pv 15 3 ?_
          refine pv 16 5 ?_
          refine fF (eF HT_.out (by kernel_rfl)) ?_
          try go_wp2
          go_ret
          exact ⟨er, bl⟩
         obtain rfl := Option.some.inj H
         try go_wp2
         replace Cb := am (bB Cb.out); replace HB := am (bg HB.out)
         refine eH (n := 17) (S := Sb8 Ci (.int .i64 a0_0) (.string a0_1) (.string a0_2) (.int .i64 a0_3) (.int .i64 a0_4) (.int .i64 a0_5) (.slice A0_6 l0_6.length c0_6) (.int .i64 a0_7)) (ds := []) #[F_, F_, F_, F_, F_, F_, F_, F_, F_, F_, F_, F_, F_, F_, F_, F_, F_] (by kernel_rfl) rfl rfl ⟨(ae Cb.out 0).trans rfl, (ae Cb.out 1).trans rfl, (ae Cb.out 2).trans rfl, (ae Cb.out 3).trans rfl, (ae Cb.out 4).trans rfl, (ae Cb.out 5).trans rfl, (ae Cb.out 6).trans rfl, (ae Cb.out 7).trans rfl⟩ (fun hHeld => ?_); refine dJ ah.qa ah.om (fun HT_ HW_ => ?_)
         generalize wc.drew = w107 at Cb HB hHeld ⊢
         refine pv 1 54 ?_
         refine pv 2 55 ?_
         refine pv 11 64 ?_
         refine tv8 3 56 hHeld ?_
         refine tv8 12 65 hHeld ?_
         refine pv 13 66 ?_
         refine ov 0 53 (fun K hK => ?_)
         refine gk Tryz.func109 (fu.calls _ _ Ie.out) ?_
         rintro e w108 ⟨v347, rfl, ho0, hb⟩
         refine ⟨_, rfl, ?_⟩
         have Cd := am (Kd.bz ho0 (az bl)); replace Cb := bo Cb hb; replace HB := ho hb
         obtain ⟨Jt, Ju, Dl⟩ := Kd.aI Cd.out
         (first | subst Dl | (injection Dl with f1_ f2_ f3_; have f4_ := f1_.symm; have f5_ := f3_.symm; clear f1_ f2_ f3_; subst f4_; subst f5_))
         refine hK.out _ _ (gQ Cb.out) (fun hHeld => ?_)
         clear hK K
         refine dn (a' := ?_) ?_ ?_
         rotate_left
         ·show Act.put _ (some 53) _ = _
          simp only [Act.put, z1, z2, z3, bu, bv]
          rfl
         refine ov 4 57 (fun K hK => ?_)
         refine gk Tryz.func52 (ay.calls _ _ _ _ _ _ _ ?Cc ?Ce Ig.out) ?_
         (case Cc => exact cc (Kd.af Cd.out).2.2)
         (case Ce => exact (Kd.af Cd.out).2.1)
         rintro e w' ⟨rfl, ⟨nd, rfl⟩⟩
         refine ⟨_, rfl, ?_⟩
         refine hK.out _ _ (gQ Cb.out) (fun hHeld => ?_)
         clear hK K
         refine dn (a' := ?_) ?_ ?_
         rotate_left
         ·show Act.put _ (some 57) _ = _
          simp only [Act.put, z1, z2, z3, bu, bv]
          rfl
         refine pv 5 58 ?_
         refine pv 6 59 ?_
         refine tv8 7 60 hHeld ?_
         refine pv 8 61 ?_
         refine ov 9 62 (fun K hK => ?_)
         refine gk Tryz.func28 (dZ.calls _ _ _ _ _ Iu.out) ?_
         rintro e w' ⟨rfl, ⟨nd, rfl⟩⟩
         refine ⟨_, rfl, ?_⟩
         refine hK.out _ _ (gQ Cb.out) (fun hHeld => ?_)
         clear hK K
         refine dn (a' := ?_) ?_ ?_
         rotate_left
         ·show Act.put _ (some 62) _ = _
          simp only [Act.put, z1, z2, z3, bu, bv]
          rfl
         refine pv 10 63 ?_
         refine ov 14 67 (fun K hK => ?_)
         refine gk Tryz.func82 (strings_Repeat.calls _ _ _ _ Iw.out) ?_
         rintro e w110 ⟨rfl, hb⟩
         refine ⟨_, rfl, ?_⟩
         refine r2_ hb Cd Cb ?_; clear Cd Cb; intro Cd Cb; replace HB := ho hb
         refine hK.out _ _ (gQ Cb.out) (fun hHeld => ?_)
         clear hK K
         refine dn (a' := ?_) ?_ ?_
         rotate_left
         ·show Act.put _ (some 67) _ = _
          simp only [Act.put, z1, z2, z3, bu, bv]
          rfl
         refine pv 15 3 ?_
         refine pv 16 5 ?_
         refine fF (eF HT_.out (by kernel_rfl)) ?_
         try go_wp2
         go_ret
         exact ⟨er, bl⟩
        revert H; refine bj fun t353 Ji H => ?_
        obtain rfl := Option.some.inj H
        try go_wp2
        replace Cb := am (bB Cb.out); replace HB := am (bg HB.out)
        refine eH (n := 17) (S := Sb8 Ci (.int .i64 a0_0) (.string a0_1) (.string a0_2) (.int .i64 a0_3) (.int .i64 a0_4) (.int .i64 a0_5) (.slice A0_6 l0_6.length c0_6) (.int .i64 a0_7)) (ds := []) #[F_, F_, F_, F_, F_, F_, F_, F_, F_, F_, F_, F_, F_, F_, F_, F_, F_] (by kernel_rfl) rfl rfl ⟨(ae Cb.out 0).trans rfl, (ae Cb.out 1).trans rfl, (ae Cb.out 2).trans rfl, (ae Cb.out 3).trans rfl, (ae Cb.out 4).trans rfl, (ae Cb.out 5).trans rfl, (ae Cb.out 6).trans rfl, (ae Cb.out 7).trans rfl⟩ (fun hHeld => ?_); refine dJ ah.qa ah.om (fun HT_ HW_ => ?_)
        generalize wc.drew = w112 at Cb HB hHeld ⊢
        refine pv 1 54 ?_
        refine pv 2 55 ?_
        refine pv 11 64 ?_
        refine tv8 3 56 hHeld ?_
        refine tv8 12 65 hHeld ?_
        refine pv 13 66 ?_
        refine ov 0 53 (fun K hK => ?_)
        refine gk Tryz.func109 (fu.calls _ _ Ie.out) ?_
        rintro e w113 ⟨v347, rfl, ho0, hb⟩
        refine ⟨_, rfl, ?_⟩
        have Cd := am (Kd.bz ho0 (az bl)); replace Cb := bo Cb hb; replace HB := ho hb
        obtain ⟨Jv, Jw, Dn⟩ := Kd.aI Cd.out
        (first | subst Dn | (injection Dn with f1_ f2_ f3_; have f4_ := f1_.symm; have f5_ := f3_.symm; clear f1_ f2_ f3_; subst f4_; subst f5_))
        refine hK.out _ _ (gQ Cb.out) (fun hHeld => ?_)
        clear hK K
        refine dn (a' := ?_) ?_ ?_
        rotate_left
        ·show Act.put _ (some 53) _ = _
         simp only [Act.put, z1, z2, z3, bu, bv]
         rfl
        refine ov 4 57 (fun K hK => ?_)
        refine gk Tryz.func52 (ay.calls _ _ _ _ _ _ _ ?Cc ?Ce Ig.out) ?_
        (case Cc => exact cc (Kd.af Cd.out).2.2)
        (case Ce => exact (Kd.af Cd.out).2.1)
        rintro e w' ⟨rfl, ⟨nd, rfl⟩⟩
        refine ⟨_, rfl, ?_⟩
        refine hK.out _ _ (gQ Cb.out) (fun hHeld => ?_)
        clear hK K
        refine dn (a' := ?_) ?_ ?_
        rotate_left
        ·show Act.put _ (some 57) _ = _
         simp only [Act.put, z1, z2, z3, bu, bv]
         rfl
        refine pv 5 58 ?_
        refine kz (i := 6) (N := some 59) (v := undef) (a' := ?_) #[T_, T_, T_, T_, T_, T_, T_, F_, F_, F_, F_, T_, T_, T_, F_, F_, F_] rfl rfl (jb HT_.out (by kernel_rfl)) (fun _ _ _ h => h) (Or.inr ⟨by rfl, rfl⟩) ?_ ?_
        rotate_left
        ·simp only [Act.put, z1, z2, z3, bu, bv]
         rfl
        refine kz (i := 7) (N := some 60) (v := undef) (a' := ?_) #[T_, T_, T_, T_, T_, T_, T_, T_, F_, F_, F_, T_, T_, T_, F_, F_, F_] rfl rfl (jb HT_.out (by kernel_rfl)) (fun _ _ _ h => h) (Or.inr ⟨by rfl, rfl⟩) ?_ ?_
        rotate_left
        ·simp only [Act.put, z1, z2, z3, bu, bv]
         rfl
        refine kz (i := 8) (N := some 61) (v := undef) (a' := ?_) #[T_, T_, T_, T_, T_, T_, T_, T_, T_, F_, F_, T_, T_, T_, F_, F_, F_] rfl rfl (jb HT_.out (by kernel_rfl)) (fun _ _ _ h => h) (Or.inr ⟨by rfl, rfl⟩) ?_ ?_
        rotate_left
        ·simp only [Act.put, z1, z2, z3, bu, bv]
         rfl
        refine kz (i := 9) (N := some 62) (v := undef) (a' := ?_) #[T_, T_, T_, T_, T_, T_, T_, T_, T_, T_, F_, T_, T_, T_, F_, F_, F_] rfl rfl (jb HT_.out (by kernel_rfl)) (fun _ _ _ h => h) (Or.inr ⟨by rfl, rfl⟩) ?_ ?_
        rotate_left
        ·simp only [Act.put, z1, z2, z3, bu, bv]
         rfl
        refine pv 10 63 ?_
        refine ov 14 67 (fun K hK => ?_)
        refine gk Tryz.func82 (strings_Repeat.calls _ _ _ _ Ji.out) ?_
        rintro e w115 ⟨rfl, hb⟩
        refine ⟨_, rfl, ?_⟩
        refine r2_ hb Cd Cb ?_; clear Cd Cb; intro Cd Cb; replace HB := ho hb
        refine hK.out _ _ (gQ Cb.out) (fun hHeld => ?_)
        clear hK K
        refine dn (a' := ?_) ?_ ?_
        rotate_left
        ·show Act.put _ (some 67) _ = _
         simp only [Act.put, z1, z2, z3, bu, bv]
         rfl
        refine pv 15 3 ?_
        refine pv 16 5 ?_
        refine fF (eF HT_.out (by kernel_rfl)) ?_
        try go_wp2
        go_ret
        exact ⟨er, bl⟩
       obtain rfl := Option.some.inj H
       go_wp2
       go_ret
       exact ⟨er, bl⟩
def ak.j0 (KF : Int → ByteArray → ByteArray → Int → Int → Int → List (dS) → Int → ByteArray → Option (Bool)) : Nat → Bool → Bool → Bool → ByteArray → Int → Bool → Int → ByteArray → ByteArray → Int → Int → Int → List (dS) → Int → Option (Bool)
 | 0, _, _, _, _, _, _, _, _, _, _, _, _, _, _ => none
 | k + 1, x3, x4, x5, x6, x21, x22, x355000, x355001, x355002, x355003, x355004, x355005, x355006, x355007 => if x22 = true then ((df.f x355001).bind fun t355 => (if t355 = true then (if x4 = true then (if x5 = true then ((KF x355000 x355001 x355002 x355003 x355004 x355005 x355006 x355007 x6).bind fun t356 => (some t356)) else (some false)) else (some false)) else (some false))) else (if x21 = 22 then (if x3 = true then (if x4 = true then (if x5 = true then ((KF x355000 x355001 x355002 x355003 x355004 x355005 x355006 x355007 (⟨#[101, 98, 98]⟩ : ByteArray)).bind fun t357 => (some t357)) else (some false)) else (some false)) else (some false)) else (if x21 = 23 then ((df.f x355001).bind fun t358 => ((df.f x355002).bind fun t359 => (if t358 = true then (if t359 = true then (if x5 = true then ((KF x355000 x355001 x355002 x355003 x355004 x355005 x355006 x355007 x6).bind fun t360 => (some t360)) else (some false)) else (some false)) else (some false)))) else (if x21 = 24 then ((dZ.f x355003 1 99).bind fun t361 => (if x3 = true then (if x4 = true then (if t361 = true then ((KF x355000 x355001 x355002 x355003 x355004 x355005 x355006 x355007 (⟨#[]⟩ : ByteArray)).bind fun t362 => (some t362)) else (some false)) else (some false)) else (some false))) else (if x21 = 25 then (if x3 = true then (if x4 = true then (if x5 = true then ((KF x355000 x355001 x355002 x355003 x355004 x355005 x355006 x355007 x6).bind fun t363 => (some t363)) else (some false)) else (some false)) else (some false)) else (if x21 = 26 then (if x3 = true then (if x4 = true then (if x5 = true then ((KF x355000 x355001 x355002 x355003 x355004 x355005 x355006 x355007 (⟨#[101, 98]⟩ : ByteArray)).bind fun t364 => (some t364)) else (some false)) else (some false)) else (some false)) else (if x21 = 27 then (if (x355006.length : Int) > 40 then (some false) else ((strings_Repeat.f (⟨#[115]⟩ : ByteArray) (x355006.length : Int)).bind fun t365 => (if x3 = true then (if x4 = true then (if x5 = true then ((KF x355000 x355001 x355002 x355003 x355004 x355005 x355006 x355007 t365).bind fun t366 => (some t366)) else (some false)) else (some false)) else (some false)))) else (some false)))))))
def ak.f (KF : Int → ByteArray → ByteArray → Int → Int → Int → List (dS) → Int → ByteArray → Option (Bool)) (k : Nat) (a0_0 : Int) (a0_1 : ByteArray) (a0_2 : ByteArray) (a0_3 : Int) (a0_4 : Int) (a0_5 : Int) (l0_6 : List (dS)) (a0_7 : Int) : Option (Bool) := if a0_0 = 20 then (ak.j0 KF k (a0_1.toList == ([] : List UInt8)) (a0_2.toList == ([] : List UInt8)) (a0_3 == 0) (⟨#[101]⟩ : ByteArray) a0_0 (a0_0 == 20) a0_0 a0_1 a0_2 a0_3 a0_4 a0_5 l0_6 a0_7) else (ak.j0 KF k (a0_1.toList == ([] : List UInt8)) (a0_2.toList == ([] : List UInt8)) (a0_3 == 0) (⟨#[101]⟩ : ByteArray) a0_0 (a0_0 == 21) a0_0 a0_1 a0_2 a0_3 a0_4 a0_5 l0_6 a0_7)
theorem ak.bI (KF KF' : Int → ByteArray → ByteArray → Int → Int → Int → List (dS) → Int → ByteArray → Option (Bool)) (hK : ∀ y0 y1 y2 y3 y4 y5 y6 y7 y8, LeO (KF y0 y1 y2 y3 y4 y5 y6 y7 y8) (KF' y0 y1 y2 y3 y4 y5 y6 y7 y8)) : ∀ k, (∀ y0 y1 y2 y3 y4 y5 y6 y7 y8 y9 y10 y11 y12 y13, LeO (ak.j0 KF k y0 y1 y2 y3 y4 y5 y6 y7 y8 y9 y10 y11 y12 y13) (ak.j0 KF' (k + 1) y0 y1 y2 y3 y4 y5 y6 y7 y8 y9 y10 y11 y12 y13))
 | 0 => fun _ _ _ _ _ _ _ _ _ _ _ _ _ _ r h => by simp [ak.j0] at h
 | k + 1 => by
  have ih0 := ak.bI KF KF' hK k
  ·intro y0 y1 y2 y3 y4 y5 y6 y7 y8 y9 y10 y11 y12 y13
   unfold ak.j0
   repeat' first
   | (with_reducible exact ih0 _ _ _ _ _ _ _ _ _ _ _ _ _ _)
   | (with_reducible exact hK _ _ _ _ _ _ _ _ _)
   | (with_reducible exact LeO.refl _)
   | (with_reducible exact LeO.none _)
   | (with_reducible refine LeO.ite ?_ ?_)
   | (with_reducible refine LeO.bind ?_ (fun _ => ?_))
   | exact ih0 _ _ _ _ _ _ _ _ _ _ _ _ _ _
   | exact hK _ _ _ _ _ _ _ _ _
   | exact LeO.none _
   | refine LeO.ite ?_ ?_
   | refine LeO.bind ?_ (fun _ => ?_)
theorem ak.mono (KF KF' : Int → ByteArray → ByteArray → Int → Int → Int → List (dS) → Int → ByteArray → Option (Bool)) (hK : ∀ y0 y1 y2 y3 y4 y5 y6 y7 y8, LeO (KF y0 y1 y2 y3 y4 y5 y6 y7 y8) (KF' y0 y1 y2 y3 y4 y5 y6 y7 y8)) : ∀ a0 a1 a2 a3 a4 a5 a6 a7 k, LeO (ak.f KF k a0 a1 a2 a3 a4 a5 a6 a7) (ak.f KF' (k + 1) a0 a1 a2 a3 a4 a5 a6 a7) := by
 intro a0 a1 a2 a3 a4 a5 a6 a7 k
 have ih0 := ak.bI KF KF' hK k
 unfold ak.f
 repeat' first
   | (with_reducible exact ih0 _ _ _ _ _ _ _ _ _ _ _ _ _ _)
   | (with_reducible exact hK _ _ _ _ _ _ _ _ _)
   | (with_reducible exact LeO.refl _)
   | (with_reducible exact LeO.none _)
   | (with_reducible refine LeO.ite ?_ ?_)
   | (with_reducible refine LeO.bind ?_ (fun _ => ?_))
   | exact ih0 _ _ _ _ _ _ _ _ _ _ _ _ _ _
   | exact hK _ _ _ _ _ _ _ _ _
   | exact LeO.none _
   | refine LeO.ite ?_ ?_
   | refine LeO.bind ?_ (fun _ => ?_)
def ak.T1 : Bool × List (List Nat × List Nat) := (true, [([], []), ([0], [0]), ([1], [1]), ([2], [2]), ([], []), ([4], [4]), ([5], [5]), ([6], [6]), ([], []), ([8], [8]), ([9], [9]), ([10], [10]), ([3, 0, 1, 2, 3], [3]), ([7, 12, 0, 1, 2, 3, 4, 5, 6, 7, 12], [7]), ([11, 13, 0, 1, 2, 3, 4, 5, 6, 7, 8, 9, 10, 11, 12, 13], [11])])
def ak.B1 : List Nat := [0, 1, 3, 7, 0, 16, 48, 112, 0, 256, 768, 1792, 15, 4351, 16383]
theorem ak.uz : iy .any (opsOf Tryz.f71 1) = ak.T1 := by kernel_rfl
theorem ak.qD : gm ak.T1.2 ak.B1 = true := by kernel_rfl
def ak.T11 : Bool × List (List Nat × List Nat) := (true, [([], []), ([0], [0]), ([1], [1]), ([2], [2]), ([], []), ([4], [4]), ([5], [5]), ([6, 3], [6]), ([3, 7, 0, 1, 2, 3], [3]), ([7, 8, 0, 1, 2, 3, 4, 5, 6, 7, 8], [7])])
def ak.B11 : List Nat := [0, 1, 3, 7, 0, 16, 48, 127, 255, 511]
theorem ak.mZ : iy .any (opsOf Tryz.f71 11) = ak.T11 := by kernel_rfl
theorem ak.kW : gm ak.T11.2 ak.B11 = true := by kernel_rfl
set_option maxHeartbeats 8000000 in
set_option maxRecDepth 100000 in
theorem ak.calls (KK : ag.HK) (k : Nat) (a0_0 : Int) (a0_1 : ByteArray) (a0_2 : ByteArray) (a0_3 : Int) (a0_4 : Int) (a0_5 : Int) (A0_6 : Option Addr) (c0_6 : Nat) (l0_6 : List (dS)) (a0_7 : Int) (r : Bool) (w : World) (hr0_6 : Kd.C jo w A0_6 l0_6.length l0_6) (hc0_6 : l0_6.length ≤ c0_6) (hsh : Sh w) (h : ak.f KK.f k a0_0 a0_1 a0_2 a0_3 a0_4 a0_5 l0_6 a0_7 = some r) :
  Calls Tryz.prog 71 #[.agg #[.int .i64 a0_0, .string a0_1, .string a0_2, .int .i64 a0_3, .int .i64 a0_4, .int .i64 a0_5, .slice A0_6 l0_6.length c0_6, .int .i64 a0_7]] w fun e w' => e = .returned (.bool r) ∧ Below w.heap.size w w' := by
 have hu105 := Tryz.underlying105
 have Cf := am hr0_6
 have Ci := am hc0_6
 clear hr0_6 hc0_6
 have HSH := am hsh; clear hsh
 have HB := am (Below.refl w.heap.size w)
 have H := h
 clear h
 unfold ak.f at H
 have Ii := am H; clear H
 go_enter Tryz.func71, Tryz.ntmps71
 try go_wp2_with (first | ((with_reducible refine g_ 1 ?_); refine bx 1 #[.int .i64 a0_0, .string a0_1, .string a0_2, .int .i64 a0_3, .int .i64 a0_4, .int .i64 a0_5, .slice A0_6 l0_6.length c0_6, .int .i64 a0_7] 105 ?_; intro Cj hg w3 hbox hb; have Cb := am hbox; have Cn := am (bsz hg : w.heap.size ≤ Cj); have Ja := Cn; replace HB := ho hb; clear hb hbox hg))
 replace Cb := am (bB Cb.out); replace HB := am (bg HB.out)
 refine eH (n := 15) (S := Sb8 Cj (.int .i64 a0_0) (.string a0_1) (.string a0_2) (.int .i64 a0_3) (.int .i64 a0_4) (.int .i64 a0_5) (.slice A0_6 l0_6.length c0_6) (.int .i64 a0_7)) (ds := []) #[F_, F_, F_, F_, F_, F_, F_, F_, F_, F_, F_, F_, F_, F_, F_] (by kernel_rfl) rfl rfl ⟨(ae Cb.out 0).trans rfl, (ae Cb.out 1).trans rfl, (ae Cb.out 2).trans rfl, (ae Cb.out 3).trans rfl, (ae Cb.out 4).trans rfl, (ae Cb.out 5).trans rfl, (ae Cb.out 6).trans rfl, (ae Cb.out 7).trans rfl⟩ (fun hHeld => ?_); refine dJ ak.uz ak.qD (fun HT_ HW_ => ?_)
 generalize w3.drew = w4 at Cb HB hHeld ⊢
 refine pv 0 7 ?_
 refine pv 1 8 ?_
 refine pv 4 11 ?_
 refine pv 5 12 ?_
 refine pv 8 15 ?_
 refine pv 9 16 ?_
 refine tv8 2 9 hHeld ?_
 refine pv 3 10 ?_
 refine pv 12 3 ?_
 refine tv8 6 13 hHeld ?_
 refine pv 7 14 ?_
 refine pv 13 4 ?_
 refine tv8 10 17 hHeld ?_
 refine pv 11 18 ?_
 refine pv 14 5 ?_
 refine fF (eF HT_.out (by kernel_rfl)) ?_
 have Z5 := dD Cb.out
 go_upto_if 22 with (fail)
 go_cut [22] (fun v22 wc => ∃ (kq : Nat) (x22_1 : Bool), v22 = .bool x22_1 ∧ aa (ak.j0 KK.f kq (a0_1.toList == ([] : List UInt8)) (a0_2.toList == ([] : List UInt8)) (a0_3 == 0) (⟨#[101]⟩ : ByteArray) a0_0 x22_1 a0_0 a0_1 a0_2 a0_3 a0_4 a0_5 l0_6 a0_7 = some r) ∧ aa (kq ≤ k) ∧ aa (wc.heap[Cj]? = some (.cells #[.int .i64 a0_0, .string a0_1, .string a0_2, .int .i64 a0_3, .int .i64 a0_4, .int .i64 a0_5, (.slice A0_6 l0_6.length c0_6), .int .i64 a0_7] 105 (0, 0))) ∧ aa (Below w.heap.size w wc))
 case first =>
  have H := Ii.out
  clear Ii
  revert H; refine iQ (fun Cm Ij H => ?_) fun c6 Cm Ij H => ?_
  ·(first | rw [Cm] | (simp only [bu, bv]; rw [Cm]) | skip)
   have H' := am H; clear H
   go_wp2
   go_meet
   case rel => exact ⟨_, ((a0_0 == 20)), rs, H', ⟨by first | omega | exact Nat.le_refl _⟩, ⟨bk Cb.out⟩, ⟨bl⟩⟩
  (first | rw [Cm] | (simp only [bu, bv]; rw [Cm]) | skip)
  have H' := am H; clear H
  go_wp2
  go_meet
  case rel => exact ⟨_, ((a0_0 == 21)), rs, H', ⟨by first | omega | exact Nat.le_refl _⟩, ⟨bk Cb.out⟩, ⟨bl⟩⟩
 case rest => as_aux_lemma =>
  clear Ii
  try clear Z5
  obtain ⟨kq, x22_1, rfl, HA, Jo, Cb, HB⟩ := hcut
  cases kq with
  | zero => exact absurd HA.out (by simp [ak.j0])
  | succ kj1 =>
   have H := HA.out
   clear HA
   simp only [ak.j0] at H
   replace H := iT H; rcases H with ⟨rfl, H⟩ | ⟨rfl, H⟩
   ·revert H; refine bj fun t355 A8 H => ?_
    replace H := iT H; rcases H with ⟨rfl, H⟩ | ⟨rfl, H⟩
    ·revert H; refine iK (fun Dc Df Dh H => ?_) fun Dc Df Dh Ik H => ?_
     ·revert H; refine iR (fun Di Dj H => ?_) fun Di Dj Jb H => ?_
      ·revert H; refine bj fun t356 Jh H => ?_
       obtain rfl := Option.some.inj H
       have Jp := dD Cb.out
       go_wp2_with (first | ((with_reducible refine c_ 49 ?_); refine gc 49 (some 28) Tryz.func49 (df.calls _ _ _ ?Cc A8.out) ?_; (case Cc => exact Sh.below HSH.out bl); rintro e w14 ⟨rfl, hb⟩; refine ⟨_, rfl, ?_⟩; replace Cb := bo Cb hb; replace HB := ho hb; clear hb; have Jq := dD Cb.out) | (go_at_call 83; (with_reducible refine (KK.calls _ _ _ _ _ _ _ _ _ _ _ _ _ ?Cc ?Cd ?Ce Jh.out).mono ?_); (case Cc => exact cb Cf.out); (case Cd => exact Ci.out); (case Ce => exact Sh.below HSH.out bl); rintro e w16 ⟨rfl, hb⟩; replace Cb := bo Cb hb; replace HB := ho hb; clear hb))
       go_ret
       exact ⟨er, bl⟩
      obtain rfl := Option.some.inj H
      have Jr := dD Cb.out
      go_wp2_with (first | ((with_reducible refine c_ 49 ?_); refine gc 49 (some 28) Tryz.func49 (df.calls _ _ _ ?Cc A8.out) ?_; (case Cc => exact Sh.below HSH.out bl); rintro e w18 ⟨rfl, hb⟩; refine ⟨_, rfl, ?_⟩; replace Cb := bo Cb hb; replace HB := ho hb; clear hb))
      go_ret
      exact ⟨er, bl⟩
     obtain rfl := Option.some.inj H
     have Js := dD Cb.out
     go_wp2_with (first | ((with_reducible refine c_ 49 ?_); refine gc 49 (some 28) Tryz.func49 (df.calls _ _ _ ?Cc A8.out) ?_; (case Cc => exact Sh.below HSH.out bl); rintro e w20 ⟨rfl, hb⟩; refine ⟨_, rfl, ?_⟩; replace Cb := bo Cb hb; replace HB := ho hb; clear hb))
     go_ret
     exact ⟨er, bl⟩
    obtain rfl := Option.some.inj H
    have Jt := dD Cb.out
    go_wp2_with (first | ((with_reducible refine c_ 49 ?_); refine gc 49 (some 28) Tryz.func49 (df.calls _ _ _ ?Cc A8.out) ?_; (case Cc => exact Sh.below HSH.out bl); rintro e w22 ⟨rfl, hb⟩; refine ⟨_, rfl, ?_⟩; replace Cb := bo Cb hb; replace HB := ho hb; clear hb))
    go_ret
    exact ⟨er, bl⟩
   revert H; refine iQ (fun Dk Dl H => ?_) fun Ju Dk Dl H => ?_
   ·revert H; refine iK (fun Dn Dp Dq H => ?_) fun Dn Dp Dq Il H => ?_
    ·revert H; refine iK (fun Dt Du Dv H => ?_) fun Dt Du Dv Im H => ?_
     ·revert H; refine iR (fun Dw Dx H => ?_) fun Dw Dx Jc H => ?_
      ·revert H; refine bj fun t357 Ji H => ?_
       obtain rfl := Option.some.inj H
       have Jv := dD Cb.out
       go_wp2_with (first | (go_at_call 83; (with_reducible refine (KK.calls _ _ _ _ _ _ _ _ _ _ _ _ _ ?Cc ?Cd ?Ce Ji.out).mono ?_); (case Cc => exact cb Cf.out); (case Cd => exact Ci.out); (case Ce => exact Sh.below HSH.out bl); rintro e w29 ⟨rfl, hb⟩; replace Cb := bo Cb hb; replace HB := ho hb; clear hb))
       go_ret
       exact ⟨er, bl⟩
      obtain rfl := Option.some.inj H
      go_wp2
      go_ret
      exact ⟨er, bl⟩
     obtain rfl := Option.some.inj H
     go_wp2
     go_ret
     exact ⟨er, bl⟩
    obtain rfl := Option.some.inj H
    go_wp2
    go_ret
    exact ⟨er, bl⟩
   revert H; refine iQ (fun Dy Dz H => ?_) fun Jw Dy Dz H => ?_
   ·revert H; refine bj fun t358 Ic H => ?_
    revert H; refine bj fun t359 Ie H => ?_
    replace H := iT H; rcases H with ⟨rfl, H⟩ | ⟨rfl, H⟩
    ·replace H := iT H; rcases H with ⟨rfl, H⟩ | ⟨rfl, H⟩
     ·revert H; refine iR (fun Ea Eb H => ?_) fun Ea Eb Jd H => ?_
      ·revert H; refine bj fun t360 Jj H => ?_
       obtain rfl := Option.some.inj H
       try go_wp2
       replace Cb := am (bB Cb.out); replace HB := am (bg HB.out)
       refine eH (n := 10) (S := Sb8 Cj (.int .i64 a0_0) (.string a0_1) (.string a0_2) (.int .i64 a0_3) (.int .i64 a0_4) (.int .i64 a0_5) (.slice A0_6 l0_6.length c0_6) (.int .i64 a0_7)) (ds := []) #[F_, F_, F_, F_, F_, F_, F_, F_, F_, F_] (by kernel_rfl) rfl rfl ⟨(ae Cb.out 0).trans rfl, (ae Cb.out 1).trans rfl, (ae Cb.out 2).trans rfl, (ae Cb.out 3).trans rfl, (ae Cb.out 4).trans rfl, (ae Cb.out 5).trans rfl, (ae Cb.out 6).trans rfl, (ae Cb.out 7).trans rfl⟩ (fun hHeld => ?_); refine dJ ak.mZ ak.kW (fun HT_ HW_ => ?_)
       generalize wc.drew = w37 at Cb HB hHeld ⊢
       refine pv 0 33 ?_
       refine pv 1 34 ?_
       refine pv 4 37 ?_
       refine pv 5 38 ?_
       refine tv8 2 35 hHeld ?_
       refine tv8 6 39 hHeld ?_
       refine ov 3 36 (fun K hK => ?_)
       refine gk Tryz.func49 (df.calls _ _ _ ?Cc Ic.out) ?_
       (case Cc => exact Sh.below HSH.out bl)
       rintro e w38 ⟨rfl, hb⟩
       refine ⟨_, rfl, ?_⟩
       replace Cb := bo Cb hb; replace HB := ho hb
       refine hK.out _ _ (gQ Cb.out) (fun hHeld => ?_)
       clear hK K
       refine dn (a' := ?_) ?_ ?_
       rotate_left
       ·show Act.put _ (some 36) _ = _
        simp only [Act.put, z1, z2, z3, bu, bv]
        rfl
       refine ov 7 40 (fun K hK => ?_)
       refine gk Tryz.func49 (df.calls _ _ _ ?Cc Ie.out) ?_
       (case Cc => exact Sh.below HSH.out bl)
       rintro e w39 ⟨rfl, hb⟩
       refine ⟨_, rfl, ?_⟩
       replace Cb := bo Cb hb; replace HB := ho hb
       refine hK.out _ _ (gQ Cb.out) (fun hHeld => ?_)
       clear hK K
       refine dn (a' := ?_) ?_ ?_
       rotate_left
       ·show Act.put _ (some 40) _ = _
        simp only [Act.put, z1, z2, z3, bu, bv]
        rfl
       refine pv 8 3 ?_
       refine pv 9 4 ?_
       refine fF (eF HT_.out (by kernel_rfl)) ?_
       have Jx := dD Cb.out
       try go_wp2_with (first | (go_at_call 83; (with_reducible refine (KK.calls _ _ _ _ _ _ _ _ _ _ _ _ _ ?Cc ?Cd ?Ce Jj.out).mono ?_); (case Cc => exact cb Cf.out); (case Cd => exact Ci.out); (case Ce => exact Sh.below HSH.out bl); rintro e w41 ⟨rfl, hb⟩; replace Cb := bo Cb hb; replace HB := ho hb; clear hb))
       go_ret
       exact ⟨er, bl⟩
      obtain rfl := Option.some.inj H
      try go_wp2
      replace Cb := am (bB Cb.out); replace HB := am (bg HB.out)
      refine eH (n := 10) (S := Sb8 Cj (.int .i64 a0_0) (.string a0_1) (.string a0_2) (.int .i64 a0_3) (.int .i64 a0_4) (.int .i64 a0_5) (.slice A0_6 l0_6.length c0_6) (.int .i64 a0_7)) (ds := []) #[F_, F_, F_, F_, F_, F_, F_, F_, F_, F_] (by kernel_rfl) rfl rfl ⟨(ae Cb.out 0).trans rfl, (ae Cb.out 1).trans rfl, (ae Cb.out 2).trans rfl, (ae Cb.out 3).trans rfl, (ae Cb.out 4).trans rfl, (ae Cb.out 5).trans rfl, (ae Cb.out 6).trans rfl, (ae Cb.out 7).trans rfl⟩ (fun hHeld => ?_); refine dJ ak.mZ ak.kW (fun HT_ HW_ => ?_)
      generalize wc.drew = w42 at Cb HB hHeld ⊢
      refine pv 0 33 ?_
      refine pv 1 34 ?_
      refine pv 4 37 ?_
      refine pv 5 38 ?_
      refine tv8 2 35 hHeld ?_
      refine tv8 6 39 hHeld ?_
      refine ov 3 36 (fun K hK => ?_)
      refine gk Tryz.func49 (df.calls _ _ _ ?Cc Ic.out) ?_
      (case Cc => exact Sh.below HSH.out bl)
      rintro e w43 ⟨rfl, hb⟩
      refine ⟨_, rfl, ?_⟩
      replace Cb := bo Cb hb; replace HB := ho hb
      refine hK.out _ _ (gQ Cb.out) (fun hHeld => ?_)
      clear hK K
      refine dn (a' := ?_) ?_ ?_
      rotate_left
      ·show Act.put _ (some 36) _ = _
       simp only [Act.put, z1, z2, z3, bu, bv]
       rfl
      refine ov 7 40 (fun K hK => ?_)
      refine gk Tryz.func49 (df.calls _ _ _ ?Cc Ie.out) ?_
      (case Cc => exact Sh.below HSH.out bl)
      rintro e w44 ⟨rfl, hb⟩
      refine ⟨_, rfl, ?_⟩
      replace Cb := bo Cb hb; replace HB := ho hb
      refine hK.out _ _ (gQ Cb.out) (fun hHeld => ?_)
      clear hK K
      refine dn (a' := ?_) ?_ ?_
      rotate_left
      ·show Act.put _ (some 40) _ = _
       simp only [Act.put, z1, z2, z3, bu, bv]
       rfl
      refine pv 8 3 ?_
      refine pv 9 4 ?_
      refine fF (eF HT_.out (by kernel_rfl)) ?_
      try go_wp2
      go_ret
      exact ⟨er, bl⟩
     obtain rfl := Option.some.inj H
     try go_wp2
     replace Cb := am (bB Cb.out); replace HB := am (bg HB.out)
     refine eH (n := 10) (S := Sb8 Cj (.int .i64 a0_0) (.string a0_1) (.string a0_2) (.int .i64 a0_3) (.int .i64 a0_4) (.int .i64 a0_5) (.slice A0_6 l0_6.length c0_6) (.int .i64 a0_7)) (ds := []) #[F_, F_, F_, F_, F_, F_, F_, F_, F_, F_] (by kernel_rfl) rfl rfl ⟨(ae Cb.out 0).trans rfl, (ae Cb.out 1).trans rfl, (ae Cb.out 2).trans rfl, (ae Cb.out 3).trans rfl, (ae Cb.out 4).trans rfl, (ae Cb.out 5).trans rfl, (ae Cb.out 6).trans rfl, (ae Cb.out 7).trans rfl⟩ (fun hHeld => ?_); refine dJ ak.mZ ak.kW (fun HT_ HW_ => ?_)
     generalize wc.drew = w45 at Cb HB hHeld ⊢
     refine pv 0 33 ?_
     refine pv 1 34 ?_
     refine pv 4 37 ?_
     refine pv 5 38 ?_
     refine tv8 2 35 hHeld ?_
     refine tv8 6 39 hHeld ?_
     refine ov 3 36 (fun K hK => ?_)
     refine gk Tryz.func49 (df.calls _ _ _ ?Cc Ic.out) ?_
     (case Cc => exact Sh.below HSH.out bl)
     rintro e w46 ⟨rfl, hb⟩
     refine ⟨_, rfl, ?_⟩
     replace Cb := bo Cb hb; replace HB := ho hb
     refine hK.out _ _ (gQ Cb.out) (fun hHeld => ?_)
     clear hK K
     refine dn (a' := ?_) ?_ ?_
     rotate_left
     ·show Act.put _ (some 36) _ = _
      simp only [Act.put, z1, z2, z3, bu, bv]
      rfl
     refine ov 7 40 (fun K hK => ?_)
     refine gk Tryz.func49 (df.calls _ _ _ ?Cc Ie.out) ?_
     (case Cc => exact Sh.below HSH.out bl)
     rintro e w47 ⟨rfl, hb⟩
     refine ⟨_, rfl, ?_⟩
     replace Cb := bo Cb hb; replace HB := ho hb
     refine hK.out _ _ (gQ Cb.out) (fun hHeld => ?_)
     clear hK K
     refine dn (a' := ?_) ?_ ?_
     rotate_left
     ·show Act.put _ (some 40) _ = _
      simp only [Act.put, z1, z2, z3, bu, bv]
      rfl
     refine pv 8 3 ?_
     refine pv 9 4 ?_
     refine fF (eF HT_.out (by kernel_rfl)) ?_
     try go_wp2
     go_ret
     exact ⟨er, bl⟩
    obtain rfl := Option.some.inj H
    try go_wp2
    replace Cb := am (bB Cb.out); replace HB := am (bg HB.out)
    refine eH (n := 10) (S := Sb8 Cj (.int .i64 a0_0) (.string a0_1) (.string a0_2) (.int .i64 a0_3) (.int .i64 a0_4) (.int .i64 a0_5) (.slice A0_6 l0_6.length c0_6) (.int .i64 a0_7)) (ds := []) #[F_, F_, F_, F_, F_, F_, F_, F_, F_, F_] (by kernel_rfl) rfl rfl ⟨(ae Cb.out 0).trans rfl, (ae Cb.out 1).trans rfl, (ae Cb.out 2).trans rfl, (ae Cb.out 3).trans rfl, (ae Cb.out 4).trans rfl, (ae Cb.out 5).trans rfl, (ae Cb.out 6).trans rfl, (ae Cb.out 7).trans rfl⟩ (fun hHeld => ?_); refine dJ ak.mZ ak.kW (fun HT_ HW_ => ?_)
    generalize wc.drew = w48 at Cb HB hHeld ⊢
    refine pv 0 33 ?_
    refine pv 1 34 ?_
    refine pv 4 37 ?_
    refine pv 5 38 ?_
    refine tv8 2 35 hHeld ?_
    refine tv8 6 39 hHeld ?_
    refine ov 3 36 (fun K hK => ?_)
    refine gk Tryz.func49 (df.calls _ _ _ ?Cc Ic.out) ?_
    (case Cc => exact Sh.below HSH.out bl)
    rintro e w49 ⟨rfl, hb⟩
    refine ⟨_, rfl, ?_⟩
    replace Cb := bo Cb hb; replace HB := ho hb
    refine hK.out _ _ (gQ Cb.out) (fun hHeld => ?_)
    clear hK K
    refine dn (a' := ?_) ?_ ?_
    rotate_left
    ·show Act.put _ (some 36) _ = _
     simp only [Act.put, z1, z2, z3, bu, bv]
     rfl
    refine ov 7 40 (fun K hK => ?_)
    refine gk Tryz.func49 (df.calls _ _ _ ?Cc Ie.out) ?_
    (case Cc => exact Sh.below HSH.out bl)
    rintro e w50 ⟨rfl, hb⟩
    refine ⟨_, rfl, ?_⟩
    replace Cb := bo Cb hb; replace HB := ho hb
    refine hK.out _ _ (gQ Cb.out) (fun hHeld => ?_)
    clear hK K
    refine dn (a' := ?_) ?_ ?_
    rotate_left
    ·show Act.put _ (some 40) _ = _
     simp only [Act.put, z1, z2, z3, bu, bv]
     rfl
    refine pv 8 3 ?_
    refine pv 9 4 ?_
    refine fF (eF HT_.out (by kernel_rfl)) ?_
    try go_wp2
    go_ret
    exact ⟨er, bl⟩
   revert H; refine iQ (fun Ec Ed H => ?_) fun Jy Ec Ed H => ?_
   ·revert H; refine bj fun t361 Ig H => ?_
    revert H; refine iK (fun Ee Ef Eg H => ?_) fun Ee Ef Eg Io H => ?_
    ·revert H; refine iK (fun Eh Ei Ej H => ?_) fun Eh Ei Ej Ip H => ?_
     ·replace H := iT H; rcases H with ⟨rfl, H⟩ | ⟨rfl, H⟩
      ·revert H; refine bj fun t362 Jk H => ?_
       obtain rfl := Option.some.inj H
       have Jz := dD Cb.out
       go_wp2_with (first | ((with_reducible refine c_ 28 ?_); refine gc 28 (some 46) Tryz.func28 (dZ.calls _ _ _ _ _ Ig.out) ?_; rintro e w' ⟨rfl, ⟨nd, rfl⟩⟩; refine ⟨_, rfl, ?_⟩) | (go_at_call 83; (with_reducible refine (KK.calls _ _ _ _ _ _ _ _ _ _ _ _ _ ?Cc ?Cd ?Ce Jk.out).mono ?_); (case Cc => exact Kd.dK Cf.out bl); (case Cd => exact Ci.out); (case Ce => exact Sh.below HSH.out bl); rintro e w58 ⟨rfl, hb⟩; replace Cb := bo Cb hb; replace HB := ho hb; clear hb))
       go_ret
       exact ⟨er, bl⟩
      obtain rfl := Option.some.inj H
      have Ka := dD Cb.out
      go_wp2_with (first | ((with_reducible refine c_ 28 ?_); refine gc 28 (some 46) Tryz.func28 (dZ.calls _ _ _ _ _ Ig.out) ?_; rintro e w' ⟨rfl, ⟨nd, rfl⟩⟩; refine ⟨_, rfl, ?_⟩))
      go_ret
      exact ⟨er, bl⟩
     obtain rfl := Option.some.inj H
     have Kb := dD Cb.out
     go_wp2_with (first | ((with_reducible refine c_ 28 ?_); refine gc 28 (some 46) Tryz.func28 (dZ.calls _ _ _ _ _ Ig.out) ?_; rintro e w' ⟨rfl, ⟨nd, rfl⟩⟩; refine ⟨_, rfl, ?_⟩))
     go_ret
     exact ⟨er, bl⟩
    obtain rfl := Option.some.inj H
    have Ke := dD Cb.out
    go_wp2_with (first | ((with_reducible refine c_ 28 ?_); refine gc 28 (some 46) Tryz.func28 (dZ.calls _ _ _ _ _ Ig.out) ?_; rintro e w' ⟨rfl, ⟨nd, rfl⟩⟩; refine ⟨_, rfl, ?_⟩))
    go_ret
    exact ⟨er, bl⟩
   revert H; refine iQ (fun Ek Em H => ?_) fun Kf Ek Em H => ?_
   ·revert H; refine iK (fun En Eo Ep H => ?_) fun En Eo Ep Iq H => ?_
    ·revert H; refine iK (fun Es Et Eu H => ?_) fun Es Et Eu Ir H => ?_
     ·revert H; refine iR (fun Ew Ey H => ?_) fun Ew Ey Je H => ?_
      ·revert H; refine bj fun t363 Jl H => ?_
       obtain rfl := Option.some.inj H
       have Kg := dD Cb.out
       go_wp2_with (first | (go_at_call 83; (with_reducible refine (KK.calls _ _ _ _ _ _ _ _ _ _ _ _ _ ?Cc ?Cd ?Ce Jl.out).mono ?_); (case Cc => exact cb Cf.out); (case Cd => exact Ci.out); (case Ce => exact Sh.below HSH.out bl); rintro e w68 ⟨rfl, hb⟩; replace Cb := bo Cb hb; replace HB := ho hb; clear hb))
       go_ret
       exact ⟨er, bl⟩
      obtain rfl := Option.some.inj H
      go_wp2
      go_ret
      exact ⟨er, bl⟩
     obtain rfl := Option.some.inj H
     go_wp2
     go_ret
     exact ⟨er, bl⟩
    obtain rfl := Option.some.inj H
    go_wp2
    go_ret
    exact ⟨er, bl⟩
   revert H; refine iQ (fun Ez Ga H => ?_) fun Kh Ez Ga H => ?_
   ·revert H; refine iK (fun Gf Gg Gh H => ?_) fun Gf Gg Gh Iu H => ?_
    ·revert H; refine iK (fun Gi Gj Gk H => ?_) fun Gi Gj Gk Iw H => ?_
     ·revert H; refine iR (fun Gl Gm H => ?_) fun Gl Gm Jf H => ?_
      ·revert H; refine bj fun t364 Jm H => ?_
       obtain rfl := Option.some.inj H
       have Ki := dD Cb.out
       go_wp2_with (first | (go_at_call 83; (with_reducible refine (KK.calls _ _ _ _ _ _ _ _ _ _ _ _ _ ?Cc ?Cd ?Ce Jm.out).mono ?_); (case Cc => exact cb Cf.out); (case Cd => exact Ci.out); (case Ce => exact Sh.below HSH.out bl); rintro e w75 ⟨rfl, hb⟩; replace Cb := bo Cb hb; replace HB := ho hb; clear hb))
       go_ret
       exact ⟨er, bl⟩
      obtain rfl := Option.some.inj H
      go_wp2
      go_ret
      exact ⟨er, bl⟩
     obtain rfl := Option.some.inj H
     go_wp2
     go_ret
     exact ⟨er, bl⟩
    obtain rfl := Option.some.inj H
    go_wp2
    go_ret
    exact ⟨er, bl⟩
   revert H; refine iQ (fun Gn Gp H => ?_) fun Kj Gn Gp H => ?_
   ·revert H; refine iDn (fun Ix Gq H => ?_) fun Ix Gq H => ?_
    ·have Gs : decide (40 < l0_6.length) = true := decide_eq_true (by omega)
     clear Ix
     obtain rfl := Option.some.inj H
     have Kk := dD Cb.out
     go_wp2
     go_ret
     exact ⟨er, bl⟩
    have Gs : decide (40 < l0_6.length) = false := decide_eq_false (by omega)
    clear Ix
    revert H; refine bj fun t365 Ih H => ?_
    revert H; refine iK (fun Gu Gv Gw H => ?_) fun Gu Gv Gw Iy H => ?_
    ·revert H; refine iK (fun Gx Gy Gz H => ?_) fun Gx Gy Gz Iz H => ?_
     ·revert H; refine iR (fun Ia Ib H => ?_) fun Ia Ib Jg H => ?_
      ·revert H; refine bj fun t366 Jn H => ?_
       obtain rfl := Option.some.inj H
       have Kl := dD Cb.out
       go_wp2_with (first | ((with_reducible refine c_ 82 ?_); refine gc 82 (some 60) Tryz.func82 (strings_Repeat.calls _ _ _ _ Ih.out) ?_; rintro e w85 ⟨rfl, hb⟩; refine ⟨_, rfl, ?_⟩; replace Cb := bo Cb hb; replace HB := ho hb; clear hb; have Km := dD Cb.out) | (go_at_call 83; (with_reducible refine (KK.calls _ _ _ _ _ _ _ _ _ _ _ _ _ ?Cc ?Cd ?Ce Jn.out).mono ?_); (case Cc => exact cb Cf.out); (case Cd => exact Ci.out); (case Ce => exact Sh.below HSH.out bl); rintro e w87 ⟨rfl, hb⟩; replace Cb := bo Cb hb; replace HB := ho hb; clear hb))
       go_ret
       exact ⟨er, bl⟩
      obtain rfl := Option.some.inj H
      have Kn := dD Cb.out
      go_wp2_with (first | ((with_reducible refine c_ 82 ?_); refine gc 82 (some 60) Tryz.func82 (strings_Repeat.calls _ _ _ _ Ih.out) ?_; rintro e w89 ⟨rfl, hb⟩; refine ⟨_, rfl, ?_⟩; replace Cb := bo Cb hb; replace HB := ho hb; clear hb))
      go_ret
      exact ⟨er, bl⟩
     obtain rfl := Option.some.inj H
     have Ko := dD Cb.out
     go_wp2_with (first | ((with_reducible refine c_ 82 ?_); refine gc 82 (some 60) Tryz.func82 (strings_Repeat.calls _ _ _ _ Ih.out) ?_; rintro e w91 ⟨rfl, hb⟩; refine ⟨_, rfl, ?_⟩; replace Cb := bo Cb hb; replace HB := ho hb; clear hb))
     go_ret
     exact ⟨er, bl⟩
    obtain rfl := Option.some.inj H
    have Kp := dD Cb.out
    go_wp2_with (first | ((with_reducible refine c_ 82 ?_); refine gc 82 (some 60) Tryz.func82 (strings_Repeat.calls _ _ _ _ Ih.out) ?_; rintro e w93 ⟨rfl, hb⟩; refine ⟨_, rfl, ?_⟩; replace Cb := bo Cb hb; replace HB := ho hb; clear hb))
    go_ret
    exact ⟨er, bl⟩
   obtain rfl := Option.some.inj H
   go_wp2
   go_ret
   exact ⟨er, bl⟩
end Go.Proofs.YthpjnjplgmaofaaGreatDoor.PFnExactVmNamed
