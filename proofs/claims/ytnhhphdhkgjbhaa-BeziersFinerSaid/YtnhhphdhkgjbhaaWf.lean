/- What is proved: what math/bits.Div64 returns: a number of two words by one that is greater than the upper one. -/
import Derived.Test.YtnhhphdhkgjbhaaWe
import Derived.Test.YtnhhphdhkgjbhaaDv
import Derived.Lib.ItoaNum
set_option linter.unusedSimpArgs false
set_option linter.unusedVariables false
namespace Go.Proofs.Ytnhhphdhkgjbhaa
open Go.RowKit Wi Dv

theorem div64_low (lo y : Int) (hl : Word lo) (hy : 0 < y ∧ y < 18446744073709551616) (w : World) : Calls Try.prog 69 #[.int .u64 0, .int .u64 lo, .int .u64 y] w fun e w' => e = .returned (.tuple #[.int .u64 (lo / y), .int .u64 (lo % y)]) ∧ Below w.heap.size w w' := by
  obtain ⟨l1, l2⟩ := hl
  obtain ⟨y1, y2⟩ := hy
  have n0 : ¬ y = 0 := by omega
  have n1 : ¬ y ≤ 0 := by omega
  have d0 : 0 ≤ lo / y := Int.ediv_nonneg l1 (by omega)
  have d1 : lo / y ≤ lo := Int.ediv_le_self _ l1
  have d2 := Int.emod_nonneg lo n0
  have d3 := Int.emod_lt_of_pos lo y1
  have td : lo.tdiv y = lo / y := Int.tdiv_eq_ediv_of_nonneg l1
  have tm : lo.tmod y = lo % y := Int.tmod_eq_emod_of_nonneg l1
  go_enter Try.func69, Try.ntmps69
  go_wp2
  go_quiet (fail)
  go_wp2
  exact bodyPost_ret (v := .tuple #[.int .u64 (lo / y), .int .u64 (lo % y)]) (by simp [results, Try.results69, go_sem]) rfl ⟨rfl, below_drewN (bel_refl _) _⟩

theorem lz_norm (y : Int) (y1 : 0 < y) (y2 : y < 18446744073709551616) : ∃ s : Nat, (64 - (Lib.bitLen y.toNat : Int)) = s ∧ s ≤ 64 ∧ 9223372036854775808 ≤ y * 2 ^ s ∧ y * 2 ^ s < 18446744073709551616 := by
  obtain ⟨n, rfl⟩ := Int.eq_ofNat_of_zero_le (Int.le_of_lt y1)
  have h := Lib.bitLenAux_bounds 64 n (by omega) (by omega)
  have hb : Lib.bitLen n ≤ 64 := Lib.bitLen_le n 64 (by omega) (by omega)
  have e : Lib.bitLen n = Lib.bitLenAux 64 n := rfl
  rw [← e] at h
  obtain ⟨h1, h2, h3⟩ := h
  rw [Int.toNat_natCast]
  generalize Lib.bitLen n = L at *
  refine ⟨64 - L, by omega, by omega, ?_⟩
  have k1 : 2 ^ (L - 1) * 2 ^ (64 - L) ≤ n * 2 ^ (64 - L) := Nat.mul_le_mul_right _ h2
  have k2 : n * 2 ^ (64 - L) < 2 ^ L * 2 ^ (64 - L) := Nat.mul_lt_mul_of_pos_right h3 (Nat.two_pow_pos _)
  rw [← Nat.pow_add] at k1 k2
  rw [show L - 1 + (64 - L) = 63 by omega] at k1
  rw [show L + (64 - L) = 64 by omega] at k2
  have c : ((n * 2 ^ (64 - L) : Nat) : Int) = (n : Int) * 2 ^ (64 - L) := by rw [Int.natCast_mul, Int.natCast_pow]; rfl
  rw [← c]
  omega
theorem mask32 (x : Int) (h0 : 0 ≤ x) (h1 : x < 18446744073709551616) : bits .and .u64 x 4294967295 = x % 4294967296 := by
  obtain ⟨n, rfl⟩ := Int.eq_ofNat_of_zero_le h0
  rw [Mul64.maskN n (by omega)]; omega
theorem or_parts (h lo : Int) (s : Nat) (h0 : 0 ≤ h) (l0 : 0 ≤ lo) (g1 : h * 2 ^ s < 18446744073709551616) (g2 : lo / 2 ^ (64 - s) < 2 ^ s) (hs : s ≤ 64) :
    bits .or .u64 (IntKind.u64.wrap (h * 2 ^ s)) (lo / 2 ^ (64 - s)) = h * 2 ^ s + lo / 2 ^ (64 - s) := by
  obtain ⟨a, rfl⟩ := Int.eq_ofNat_of_zero_le h0
  obtain ⟨b, rfl⟩ := Int.eq_ofNat_of_zero_le l0
  have c1 : ((a * 2 ^ s : Nat) : Int) = (a : Int) * 2 ^ s := by rw [Int.natCast_mul, Int.natCast_pow]; rfl
  have c2 : ((b / 2 ^ (64 - s) : Nat) : Int) = (b : Int) / 2 ^ (64 - s) := by rw [Int.natCast_ediv, Int.natCast_pow]; rfl
  have c3 : ((2 ^ s : Nat) : Int) = 2 ^ s := by rw [Int.natCast_pow]; rfl
  have p : (2 : Nat) ^ s ≤ 2 ^ 64 := Nat.pow_le_pow_right (by decide) hs
  rw [IntKind.wrap_u64, ← c1, ← c2]
  rw [← c1] at g1
  rw [← c2, ← c3] at g2
  rw [Int.emod_eq_of_lt (by omega) g1, bits_or_u64_nat _ _ (by omega) (by omega)]
  have k := Nat.shiftLeft_add_eq_or_of_lt (b := b / 2 ^ (64 - s)) (i := s) (by omega) a
  rw [Nat.shiftLeft_eq] at k
  rw [← k, Int.natCast_add]
set_option maxHeartbeats 1600000 in
theorem div64_high (h lo y : Int) (hh : 0 < h ∧ h < y) (hl : Word lo) (hy : 0 < y ∧ y < 18446744073709551616) (w : World) : Calls Try.prog 69 #[.int .u64 h, .int .u64 lo, .int .u64 y] w fun e w' => e = .returned (.tuple #[.int .u64 ((h * 18446744073709551616 + lo) / y), .int .u64 ((h * 18446744073709551616 + lo) % y)]) ∧ Below w.heap.size w w' := by
  obtain ⟨l1, l2⟩ := hl
  obtain ⟨y1, y2⟩ := hy
  obtain ⟨h1, h2⟩ := hh
  have n0 : ¬ y = 0 := by omega
  have n1 : ¬ y ≤ h := by omega
  have n2 : ¬ h = 0 := by omega
  obtain ⟨s, hs', s64, ys1, ys2⟩ := lz_norm y y1 y2
  obtain ⟨p1, p2, p3, p4, p5, p6, p7⟩ := norm h lo y s s64 ys1 ys2 (by omega) h2 l1 l2
  have f4 := or_parts h lo s (by omega) l1 p3 p5 s64
  have bk := back (h * 18446744073709551616 + lo) y (2 ^ s) p7
  have f1 : IntKind.u64.wrap (y * 2 ^ s) = y * 2 ^ s := by rw [IntKind.wrap_u64]; omega
  have f5 : IntKind.u64.wrap (lo * 2 ^ s) = lo * 2 ^ s % 18446744073709551616 := IntKind.wrap_u64 _
  have hV : 0 ≤ lo * 2 ^ s % 18446744073709551616 ∧ lo * 2 ^ s % 18446744073709551616 < 18446744073709551616 := by omega
  rw [← p1] at bk
  generalize hYe : y * 2 ^ s = Y at *
  generalize hVe : lo * 2 ^ s % 18446744073709551616 = V at *
  have hU0 : 0 ≤ h * 2 ^ s + lo / 2 ^ (64 - s) := by omega
  generalize h * 2 ^ s + lo / 2 ^ (64 - s) = U at *
  have kn1 : Kn (Y / 4294967296) (Y % 4294967296) U (V / 4294967296) := kn_of Y U _ ys1 ys2 hU0 p6 (by omega) (by omega)
  have f2 := mask32 Y (by omega) ys2
  have f3 := mask32 V hV.1 hV.2
  have kY : Y / 4294967296 * 4294967296 + Y % 4294967296 = Y := by omega
  have rb1 := rest_bd Y U (V / 4294967296) (by omega)
  have re1 := rest_eq Y U (V / 4294967296)
  have tq1 := T_eq Y U (V / 4294967296)
  have ts := two_steps Y U (V / 4294967296) (V % 4294967296) (by omega)
  have hVV : V / 4294967296 * 4294967296 + V % 4294967296 = V := by omega
  rw [Int.add_assoc, hVV] at ts
  generalize (U * 4294967296 + V / 4294967296) % Y = R at *
  have kn2 : Kn (Y / 4294967296) (Y % 4294967296) R (V % 4294967296) := kn_of Y R _ ys1 ys2 rb1.1 rb1.2 (by omega) (by omega)
  have rb2 := rest_bd Y R (V % 4294967296) (by omega)
  have re2 := rest_eq Y R (V % 4294967296)
  have tq2 := T_eq Y R (V % 4294967296)
  have tb1 := T_bd kn1
  have tb2 := T_bd kn2
  rw [tq1] at tb1
  rw [tq2] at tb2
  generalize hT1 : (U * 4294967296 + V / 4294967296) / Y = T1 at *
  generalize hT2 : (R * 4294967296 + V % 4294967296) / Y = T2 at *
  generalize (R * 4294967296 + V % 4294967296) % Y = R2 at *
  have st1 := Inv.start kn1
  have st2 := Inv.start kn2
  have hV1 : 0 ≤ V / 4294967296 ∧ V / 4294967296 < 4294967296 := by omega
  have hV0 : 0 ≤ V % 4294967296 ∧ V % 4294967296 < 4294967296 := by omega
  generalize fV1 : V / 4294967296 = V1 at *
  generalize V % 4294967296 = V0 at *
  have hY1 : 2147483648 ≤ Y / 4294967296 := by omega
  generalize fY1 : Y / 4294967296 = Y1 at *
  generalize Y % 4294967296 = Y0 at *
  have nY : ¬ Y1 = 0 := by omega
  have q1 : IntKind.u64.wrap (U.tdiv Y1) = U / Y1 := by
    rw [IntKind.wrap_u64, Int.tdiv_eq_ediv_of_nonneg hU0]
    have := (Inv.bd kn1 st1).2.2.2.2.2.2; exact Int.emod_eq_of_lt this.1 this.2.1
  have r1 : IntKind.u64.wrap (U - IntKind.u64.wrap (U / Y1 * Y1)) = U % Y1 := by
    have e := st1.e
    have l1 := st1.r0
    have l2 := st1.r1
    rw [IntKind.wrap_u64, IntKind.wrap_u64]
    generalize U / Y1 * Y1 = P at *
    omega
  have q2 : IntKind.u64.wrap (R.tdiv Y1) = R / Y1 := by
    rw [IntKind.wrap_u64, Int.tdiv_eq_ediv_of_nonneg rb1.1]
    have := (Inv.bd kn2 st2).2.2.2.2.2.2; exact Int.emod_eq_of_lt this.1 this.2.1
  have r2 : IntKind.u64.wrap (R - IntKind.u64.wrap (R / Y1 * Y1)) = R % Y1 := by
    have e := st2.e
    have l1 := st2.r0
    have l2 := st2.r1
    rw [IntKind.wrap_u64, IntKind.wrap_u64]
    generalize R / Y1 * Y1 = P at *
    omega
  have u1 : IntKind.u64.wrap (IntKind.u64.wrap (IntKind.u64.wrap (U * 4294967296) + V1) - IntKind.u64.wrap (T1 * Y)) = R := by
    rw [IntKind.wrap_u64, IntKind.wrap_u64, IntKind.wrap_u64, IntKind.wrap_u64]
    generalize T1 * Y = P at *
    omega
  have u2 : IntKind.u64.wrap (IntKind.u64.wrap (IntKind.u64.wrap (R * 4294967296) + V0) - IntKind.u64.wrap (T2 * Y)) = R2 := by
    rw [IntKind.wrap_u64, IntKind.wrap_u64, IntKind.wrap_u64, IntKind.wrap_u64]
    generalize T2 * Y = P at *
    omega
  have qq : IntKind.u64.wrap (IntKind.u64.wrap (T1 * 4294967296) + T2) = (h * 18446744073709551616 + lo) / y := by
    rw [IntKind.wrap_u64, IntKind.wrap_u64, ← bk.1, ts.1]; omega
  have rr : R2 / 2 ^ s = (h * 18446744073709551616 + lo) % y := by rw [← bk.2, ts.2]
  replace f1 : IntKind.u64.wrap (y * 2 ^ s) = Y := by rw [hYe]; exact f1
  have Hk1 := Lib.hid kn1
  have Hk2 := Lib.hid kn2
  have Hs1 := Lib.hid st1
  have Hs2 := Lib.hid st2
  have HT1 := Lib.hid tq1
  have HT2 := Lib.hid tq2
  clear kn1 kn2 st1 st2 tq1 tq2 tb1 tb2 ts bk hT1 hT2 re1 re2 rb1 rb2 kY hVV hYe hVe p1 p2 p3 p4 p5 p6 p7 hU0 ys1
  generalize (h * 18446744073709551616 + lo) / y = QQ at *
  generalize (h * 18446744073709551616 + lo) % y = RR at *
  go_enter Try.func69, Try.ntmps69
  go_wp2_with (go_at_call 71; refine (Try.bits_LeadingZeros64 y _ (by omega) (by omega)).mono ?_; rintro e w1 ⟨rfl, rfl⟩; rw [hs'])
  go_loopw [15, 16] (fun qv rv wl => ∃ q r : Int, qv = .int .u64 q ∧ rv = .int .u64 r ∧ wl = w1 ∧ Hid (Inv Y1 Y0 U V1 q r)) (fun qv _ _ => (intOf qv).toNat)
  case atStart => exact ⟨_, _, rfl, rfl, rfl, Hs1⟩
  case round =>
    obtain ⟨q, r, rfl, rfl, rfl, hI⟩ := hrel
    have hI' := hI.out
    have ⟨m1, m2, m3, m4, m5, m6, m7, m8, m9, m10⟩ := Inv.bd Hk1.out hI'
    have i1 : IntKind.u64.wrap (q * Y0) = q * Y0 := by rw [IntKind.wrap_u64]; exact Int.emod_eq_of_lt m1 m2
    have i2 : IntKind.u64.wrap (4294967296 * r) = 4294967296 * r := by rw [IntKind.wrap_u64]; exact Int.emod_eq_of_lt m3 m4
    have i3 : IntKind.u64.wrap (4294967296 * r + V1) = 4294967296 * r + V1 := by rw [IntKind.wrap_u64]; exact Int.emod_eq_of_lt m5 m6
    have i4 : IntKind.u64.wrap (r + Y1) = r + Y1 := by rw [IntKind.wrap_u64]; exact Int.emod_eq_of_lt m9 m10
    by_cases hd : Due Y0 V1 q r
    · by_cases hl : r + Y1 < 4294967296
      · have ⟨hN, hp⟩ := Inv.more Hk1.out hI' hd hl
        have i5 : IntKind.u64.wrap (q - 1) = q - 1 := by rw [IntKind.wrap_u64]; omega
        have HN := Lib.hid hN
        have hn1 : ¬ 4294967296 ≤ r + Y1 := by omega
        clear hN hI' m1 m2 m3 m4 m5 m6 m9 m10
        rcases hd with g | g
        · go_wp2
          go_roundw
          case rel => exact ⟨_, _, rfl, rfl, by trivial, HN⟩
          case measure => simp [intOf]; omega
        · by_cases g2 : 4294967296 ≤ q
          · go_wp2
            go_roundw
            case rel => exact ⟨_, _, rfl, rfl, by trivial, HN⟩
            case measure => simp [intOf]; omega
          · go_wp2
            go_roundw
            case rel => exact ⟨_, _, rfl, rfl, by trivial, HN⟩
            case measure => simp [intOf]; omega
      · have ⟨hT, hp⟩ := Inv.broke Hk1.out hI' hd (by omega)
        have i5 : IntKind.u64.wrap (q - 1) = T1 := by rw [IntKind.wrap_u64, ← HT1.out, ← hT]; omega
        have hn1 : 4294967296 ≤ r + Y1 := by omega
        clear hT hI' m1 m2 m3 m4 m5 m6 m9 m10
        by_cases g2 : 4294967296 ≤ q
        · clear hd
          go_wp2
          try clear i5
          try clear i4
          try clear i3
          try clear i2
          try clear i1
          try clear hn1
          try clear g1
          try clear g2
          try clear g3
          try clear hl
          try clear hp
          try clear hI
          try clear m7
          try clear m8
          go_loopw [18, 16] (fun qv rv wl => ∃ q r : Int, qv = .int .u64 q ∧ rv = .int .u64 r ∧ wl = wr ∧ Hid (Inv Y1 Y0 R V0 q r)) (fun qv _ _ => (intOf qv).toNat)
          case atStart => exact ⟨_, _, rfl, rfl, rfl, Hs2⟩
          case round =>
            obtain ⟨q, r, rfl, rfl, rfl, hI⟩ := hrel
            have hI' := hI.out
            have ⟨m1, m2, m3, m4, m5, m6, m7, m8, m9, m10⟩ := Inv.bd Hk2.out hI'
            have i1 : IntKind.u64.wrap (q * Y0) = q * Y0 := by rw [IntKind.wrap_u64]; exact Int.emod_eq_of_lt m1 m2
            have i2 : IntKind.u64.wrap (4294967296 * r) = 4294967296 * r := by rw [IntKind.wrap_u64]; exact Int.emod_eq_of_lt m3 m4
            have i3 : IntKind.u64.wrap (4294967296 * r + V0) = 4294967296 * r + V0 := by rw [IntKind.wrap_u64]; exact Int.emod_eq_of_lt m5 m6
            have i4 : IntKind.u64.wrap (r + Y1) = r + Y1 := by rw [IntKind.wrap_u64]; exact Int.emod_eq_of_lt m9 m10
            by_cases hd : Due Y0 V0 q r
            · by_cases hl : r + Y1 < 4294967296
              · have ⟨hN, hp⟩ := Inv.more Hk2.out hI' hd hl
                have i5 : IntKind.u64.wrap (q - 1) = q - 1 := by rw [IntKind.wrap_u64]; omega
                have HN := Lib.hid hN
                have hn1 : ¬ 4294967296 ≤ r + Y1 := by omega
                clear hN hI' m1 m2 m3 m4 m5 m6 m9 m10
                rcases hd with g | g
                · go_wp2
                  go_roundw
                  case rel => exact ⟨_, _, rfl, rfl, by trivial, HN⟩
                  case measure => simp [intOf]; omega
                · by_cases g2 : 4294967296 ≤ q
                  · go_wp2
                    go_roundw
                    case rel => exact ⟨_, _, rfl, rfl, by trivial, HN⟩
                    case measure => simp [intOf]; omega
                  · go_wp2
                    go_roundw
                    case rel => exact ⟨_, _, rfl, rfl, by trivial, HN⟩
                    case measure => simp [intOf]; omega
              · have ⟨hT, hp⟩ := Inv.broke Hk2.out hI' hd (by omega)
                have i5 : IntKind.u64.wrap (q - 1) = T2 := by rw [IntKind.wrap_u64, ← HT2.out, ← hT]; omega
                have hn1 : 4294967296 ≤ r + Y1 := by omega
                clear hT hI' m1 m2 m3 m4 m5 m6 m9 m10
                by_cases g2 : 4294967296 ≤ q
                · clear hd
                  go_wp2
                  exact bodyPost_ret (v := .tuple #[.int .u64 QQ, .int .u64 RR]) (by simp [results, Try.results69, go_sem]) rfl ⟨rfl, bel_refl _⟩
                · have g3 : 4294967296 * r + V0 < q * Y0 := by rcases hd with g | g; exact absurd g g2; exact g
                  clear hd
                  go_wp2
                  exact bodyPost_ret (v := .tuple #[.int .u64 QQ, .int .u64 RR]) (by simp [results, Try.results69, go_sem]) rfl ⟨rfl, bel_refl _⟩
            · have g1 : ¬ 4294967296 ≤ q := fun g => hd (Or.inl g)
              have g2 : ¬ 4294967296 * r + V0 < q * Y0 := fun g => hd (Or.inr g)
              have hT : q = T2 := (Inv.done Hk2.out hI' (by omega)).trans HT2.out
              clear hd hI' m1 m2 m3 m4 m5 m6 m9 m10
              subst hT
              go_wp2
              exact bodyPost_ret (v := .tuple #[.int .u64 QQ, .int .u64 RR]) (by simp [results, Try.results69, go_sem]) rfl ⟨rfl, bel_refl _⟩
        · have g3 : 4294967296 * r + V1 < q * Y0 := by rcases hd with g | g; exact absurd g g2; exact g
          clear hd
          go_wp2
          try clear i5
          try clear i4
          try clear i3
          try clear i2
          try clear i1
          try clear hn1
          try clear g1
          try clear g2
          try clear g3
          try clear hl
          try clear hp
          try clear hI
          try clear m7
          try clear m8
          go_loopw [18, 16] (fun qv rv wl => ∃ q r : Int, qv = .int .u64 q ∧ rv = .int .u64 r ∧ wl = wr ∧ Hid (Inv Y1 Y0 R V0 q r)) (fun qv _ _ => (intOf qv).toNat)
          case atStart => exact ⟨_, _, rfl, rfl, rfl, Hs2⟩
          case round =>
            obtain ⟨q, r, rfl, rfl, rfl, hI⟩ := hrel
            have hI' := hI.out
            have ⟨m1, m2, m3, m4, m5, m6, m7, m8, m9, m10⟩ := Inv.bd Hk2.out hI'
            have i1 : IntKind.u64.wrap (q * Y0) = q * Y0 := by rw [IntKind.wrap_u64]; exact Int.emod_eq_of_lt m1 m2
            have i2 : IntKind.u64.wrap (4294967296 * r) = 4294967296 * r := by rw [IntKind.wrap_u64]; exact Int.emod_eq_of_lt m3 m4
            have i3 : IntKind.u64.wrap (4294967296 * r + V0) = 4294967296 * r + V0 := by rw [IntKind.wrap_u64]; exact Int.emod_eq_of_lt m5 m6
            have i4 : IntKind.u64.wrap (r + Y1) = r + Y1 := by rw [IntKind.wrap_u64]; exact Int.emod_eq_of_lt m9 m10
            by_cases hd : Due Y0 V0 q r
            · by_cases hl : r + Y1 < 4294967296
              · have ⟨hN, hp⟩ := Inv.more Hk2.out hI' hd hl
                have i5 : IntKind.u64.wrap (q - 1) = q - 1 := by rw [IntKind.wrap_u64]; omega
                have HN := Lib.hid hN
                have hn1 : ¬ 4294967296 ≤ r + Y1 := by omega
                clear hN hI' m1 m2 m3 m4 m5 m6 m9 m10
                rcases hd with g | g
                · go_wp2
                  go_roundw
                  case rel => exact ⟨_, _, rfl, rfl, by trivial, HN⟩
                  case measure => simp [intOf]; omega
                · by_cases g2 : 4294967296 ≤ q
                  · go_wp2
                    go_roundw
                    case rel => exact ⟨_, _, rfl, rfl, by trivial, HN⟩
                    case measure => simp [intOf]; omega
                  · go_wp2
                    go_roundw
                    case rel => exact ⟨_, _, rfl, rfl, by trivial, HN⟩
                    case measure => simp [intOf]; omega
              · have ⟨hT, hp⟩ := Inv.broke Hk2.out hI' hd (by omega)
                have i5 : IntKind.u64.wrap (q - 1) = T2 := by rw [IntKind.wrap_u64, ← HT2.out, ← hT]; omega
                have hn1 : 4294967296 ≤ r + Y1 := by omega
                clear hT hI' m1 m2 m3 m4 m5 m6 m9 m10
                by_cases g2 : 4294967296 ≤ q
                · clear hd
                  go_wp2
                  exact bodyPost_ret (v := .tuple #[.int .u64 QQ, .int .u64 RR]) (by simp [results, Try.results69, go_sem]) rfl ⟨rfl, bel_refl _⟩
                · have g3 : 4294967296 * r + V0 < q * Y0 := by rcases hd with g | g; exact absurd g g2; exact g
                  clear hd
                  go_wp2
                  exact bodyPost_ret (v := .tuple #[.int .u64 QQ, .int .u64 RR]) (by simp [results, Try.results69, go_sem]) rfl ⟨rfl, bel_refl _⟩
            · have g1 : ¬ 4294967296 ≤ q := fun g => hd (Or.inl g)
              have g2 : ¬ 4294967296 * r + V0 < q * Y0 := fun g => hd (Or.inr g)
              have hT : q = T2 := (Inv.done Hk2.out hI' (by omega)).trans HT2.out
              clear hd hI' m1 m2 m3 m4 m5 m6 m9 m10
              subst hT
              go_wp2
              exact bodyPost_ret (v := .tuple #[.int .u64 QQ, .int .u64 RR]) (by simp [results, Try.results69, go_sem]) rfl ⟨rfl, bel_refl _⟩
    · have g1 : ¬ 4294967296 ≤ q := fun g => hd (Or.inl g)
      have g2 : ¬ 4294967296 * r + V1 < q * Y0 := fun g => hd (Or.inr g)
      have hT : q = T1 := (Inv.done Hk1.out hI' (by omega)).trans HT1.out
      clear hd hI' m1 m2 m3 m4 m5 m6 m9 m10
      subst hT
      go_wp2
      try clear i5
      try clear i4
      try clear i3
      try clear i2
      try clear i1
      try clear hn1
      try clear g1
      try clear g2
      try clear g3
      try clear hl
      try clear hp
      try clear hI
      try clear m7
      try clear m8
      go_loopw [18, 16] (fun qv rv wl => ∃ q r : Int, qv = .int .u64 q ∧ rv = .int .u64 r ∧ wl = wr ∧ Hid (Inv Y1 Y0 R V0 q r)) (fun qv _ _ => (intOf qv).toNat)
      case atStart => exact ⟨_, _, rfl, rfl, rfl, Hs2⟩
      case round =>
        obtain ⟨q, r, rfl, rfl, rfl, hI⟩ := hrel
        have hI' := hI.out
        have ⟨m1, m2, m3, m4, m5, m6, m7, m8, m9, m10⟩ := Inv.bd Hk2.out hI'
        have i1 : IntKind.u64.wrap (q * Y0) = q * Y0 := by rw [IntKind.wrap_u64]; exact Int.emod_eq_of_lt m1 m2
        have i2 : IntKind.u64.wrap (4294967296 * r) = 4294967296 * r := by rw [IntKind.wrap_u64]; exact Int.emod_eq_of_lt m3 m4
        have i3 : IntKind.u64.wrap (4294967296 * r + V0) = 4294967296 * r + V0 := by rw [IntKind.wrap_u64]; exact Int.emod_eq_of_lt m5 m6
        have i4 : IntKind.u64.wrap (r + Y1) = r + Y1 := by rw [IntKind.wrap_u64]; exact Int.emod_eq_of_lt m9 m10
        by_cases hd : Due Y0 V0 q r
        · by_cases hl : r + Y1 < 4294967296
          · have ⟨hN, hp⟩ := Inv.more Hk2.out hI' hd hl
            have i5 : IntKind.u64.wrap (q - 1) = q - 1 := by rw [IntKind.wrap_u64]; omega
            have HN := Lib.hid hN
            have hn1 : ¬ 4294967296 ≤ r + Y1 := by omega
            clear hN hI' m1 m2 m3 m4 m5 m6 m9 m10
            rcases hd with g | g
            · go_wp2
              go_roundw
              case rel => exact ⟨_, _, rfl, rfl, by trivial, HN⟩
              case measure => simp [intOf]; omega
            · by_cases g2 : 4294967296 ≤ q
              · go_wp2
                go_roundw
                case rel => exact ⟨_, _, rfl, rfl, by trivial, HN⟩
                case measure => simp [intOf]; omega
              · go_wp2
                go_roundw
                case rel => exact ⟨_, _, rfl, rfl, by trivial, HN⟩
                case measure => simp [intOf]; omega
          · have ⟨hT, hp⟩ := Inv.broke Hk2.out hI' hd (by omega)
            have i5 : IntKind.u64.wrap (q - 1) = T2 := by rw [IntKind.wrap_u64, ← HT2.out, ← hT]; omega
            have hn1 : 4294967296 ≤ r + Y1 := by omega
            clear hT hI' m1 m2 m3 m4 m5 m6 m9 m10
            by_cases g2 : 4294967296 ≤ q
            · clear hd
              go_wp2
              exact bodyPost_ret (v := .tuple #[.int .u64 QQ, .int .u64 RR]) (by simp [results, Try.results69, go_sem]) rfl ⟨rfl, bel_refl _⟩
            · have g3 : 4294967296 * r + V0 < q * Y0 := by rcases hd with g | g; exact absurd g g2; exact g
              clear hd
              go_wp2
              exact bodyPost_ret (v := .tuple #[.int .u64 QQ, .int .u64 RR]) (by simp [results, Try.results69, go_sem]) rfl ⟨rfl, bel_refl _⟩
        · have g1 : ¬ 4294967296 ≤ q := fun g => hd (Or.inl g)
          have g2 : ¬ 4294967296 * r + V0 < q * Y0 := fun g => hd (Or.inr g)
          have hT : q = T2 := (Inv.done Hk2.out hI' (by omega)).trans HT2.out
          clear hd hI' m1 m2 m3 m4 m5 m6 m9 m10
          subst hT
          go_wp2
          exact bodyPost_ret (v := .tuple #[.int .u64 QQ, .int .u64 RR]) (by simp [results, Try.results69, go_sem]) rfl ⟨rfl, bel_refl _⟩

end Go.Proofs.Ytnhhphdhkgjbhaa
