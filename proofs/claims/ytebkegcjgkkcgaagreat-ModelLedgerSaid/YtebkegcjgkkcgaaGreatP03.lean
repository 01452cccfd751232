/- A part of the proof that ModelLedger returns true for every input: what the last part leans on. No condition. -/
import Derived.Test.YtebkegcjgkkcgaaGreatP02
set_option linter.unusedVariables false
set_option linter.unusedSimpArgs false
set_option linter.unusedSectionVars false
set_option linter.deprecated false
set_option maxHeartbeats 1000000
namespace Go.Proofs
open Go.Bk
theorem c206 (a : Option Addr) (b cap m : Nat) (ts : List Tk) (hA : m ≠ 0 → a = some ⟨b, 0, none⟩) (hl : ts.length = m) (hm : m ≤ 100000) : Tri Tryz.prog 206 [.slice a m cap, .int .i64 (m : Int), .func (.func 200) #[] #[]] [TkN (.slice a m cap) m ts] (fun v Γ' => v = .tuple #[] ∧ ∃ ts' : List Tk, ts'.length = m ∧ ts'.Perm ts ∧ Γ' = [TkN (.slice a m cap) m ts']) := by
 refine Pcalls (n := 63) Tryz.func206 rfl rfl rfl fun W0 H0 => ?_
 refine SP.r2 ?_
 refine XL.a ?_
 refine XL.n4 ?_
 refine XL.m ?_
 refine XL.a ?_
 refine XL.a ?_
 refine XL.n5 ?_
 refine SP.block ?_
 refine SP.loop (X := Nat × List Tk) (fun p => [(7, .int .i64 (p.1 : Int)), (8, .int .i64 ((p.1 + 20 : Nat) : Int)), (6, .int .i64 20), (0, .slice a m cap), (1, .int .i64 (m : Int)), (2, .func (.func 200) #[] #[])]) (fun p => [TkN (.slice a m cap) m p.2]) (fun p => p.1 ≤ m ∧ p.2.length = m ∧ p.2.Perm ts) (fun p => m - p.1) (0, ts) ⟨Nat.zero_le _, hl, .refl _⟩ (by repeat' constructor) (Pk.drop (by repeat' constructor)) ?_
 rintro ⟨x, us⟩ ⟨hx, hus, hpus⟩
 dsimp only at *
 refine SP.seq ?_
 refine SP.r2 ?_
 refine XL.m ?_
 refine XL.m ?_
 refine XL.leq_s rfl rfl rfl (fun hb => ?_) (fun hb => ?_)
 ·refine XL.n2 ?_
  refine SP.t ?_
  refine SP.skip ?_
  refine Jp.then_normal ?_
  refine SP.block ?_
  refine SP.r2 ?_
  refine XL.m ?_
  refine XL.m ?_
  refine XL.m ?_
  refine XL.m ?_
  refine XL.cw rfl (c210 x (x + 20) a b cap m us hA hus hm (by omega) (by omega)) (by repeat' constructor) rfl ?_
  rintro _ _ ⟨rfl, us2, hl2, hp2, rfl⟩
  refine XL.app1 ?_
  refine XL.n4 ?_
  refine XL.m ?_
  refine XL.a ?_
  refine XL.n3 ?_
  refine XL.m ?_
  refine XL.m ?_
  refine XL.add_i64 (a := ((x + 20 : Nat) : Int)) (b := 20) rfl rfl (by omega) (by omega) rfl ?_
  rw [show ((x + 20 : Nat) : Int) + 20 = ((x + 20 + 20 : Nat) : Int) by omega]
  refine XL.a ?_
  refine XL.nil ?_
  refine Jp.block_normal ?_
  refine Jp.rd (x + 20, us2) ⟨by show x + 20 ≤ m; omega, hl2, hp2.trans hpus⟩ (by show m - (x + 20) < m - x; omega)
 ·refine XL.n2 ?_
  refine SP.f ?_
  refine SP.exit ?_
  refine Jp.then_exit ?_
  refine Jp.then_exit ?_
  refine Jp.block_here ?_
  refine Jp.n4 ?_
  refine XL.m ?_
  refine XL.m ?_
  refine XL.m ?_
  refine XL.m ?_
  refine XL.cw rfl (c210 x m a b cap m us hA hus hm (by omega) (by omega)) (by repeat' constructor) rfl ?_
  rintro _ _ ⟨rfl, us1, hl1, hp1, rfl⟩
  refine XL.app1 ?_
  refine XL.n2 ?_
  refine SP.block ?_
  refine SP.loop (X := Nat × List Tk) (fun p => [(6, .int .i64 (p.1 : Int)), (0, .slice a m cap), (1, .int .i64 (m : Int)), (2, .func (.func 200) #[] #[])]) (fun p => [TkN (.slice a m cap) m p.2]) (fun p => 1 ≤ p.1 ∧ p.1 ≤ 200000 ∧ p.2.length = m ∧ p.2.Perm ts) (fun p => m - p.1) (20, us1) ⟨by show 1 ≤ 20; omega, by show 20 ≤ 200000; omega, hl1, hp1.trans hpus⟩ (by repeat' constructor) (Pk.drop (by repeat' constructor)) ?_
  rintro ⟨bs, vs⟩ ⟨hbs, hbs2, hvs, hpvs⟩
  dsimp only at *
  refine SP.seq ?_
  refine SP.r2 ?_
  refine XL.m ?_
  refine XL.m ?_
  refine XL.lss_s rfl rfl rfl (fun hbm => ?_) (fun hbm => ?_)
  ·refine XL.n2 ?_
   refine SP.t ?_
   refine SP.skip ?_
   refine Jp.then_normal ?_
   refine SP.block ?_
   refine SP.r2 ?_
   refine XL.m ?_
   refine XL.mul_i64 (a := 2) (b := (bs : Int)) rfl rfl (by omega) (by omega) rfl ?_
   rw [show (2 : Int) * (bs : Int) = ((0 + 2 * bs : Nat) : Int) by omega]
   refine XL.a ?_
   refine XL.a ?_
   refine XL.n5 ?_
   refine SP.block ?_
   refine SP.loop (X := Nat × List Tk) (fun p => [(7, .int .i64 (p.1 : Int)), (8, .int .i64 ((p.1 + 2 * bs : Nat) : Int)), (6, .int .i64 (bs : Int)), (0, .slice a m cap), (1, .int .i64 (m : Int)), (2, .func (.func 200) #[] #[])]) (fun p => [TkN (.slice a m cap) m p.2]) (fun p => p.1 ≤ m ∧ p.2.length = m ∧ p.2.Perm ts) (fun p => m - p.1) (0, vs) ⟨Nat.zero_le _, hvs, hpvs⟩ (by repeat' constructor) (Pk.drop (by repeat' constructor)) ?_
   rintro ⟨y, ws⟩ ⟨hy, hws, hpws⟩
   dsimp only at *
   refine SP.seq ?_
   refine SP.r2 ?_
   refine XL.m ?_
   refine XL.m ?_
   refine XL.leq_s rfl rfl rfl (fun hyb => ?_) (fun hyb => ?_)
   ·refine XL.n2 ?_
    refine SP.t ?_
    refine SP.skip ?_
    refine Jp.then_normal ?_
    refine SP.block ?_
    refine SP.r2 ?_
    refine XL.m ?_
    refine XL.m ?_
    refine XL.m ?_
    refine XL.m ?_
    refine XL.add_i64 (a := (y : Int)) (b := (bs : Int)) rfl rfl (by omega) (by omega) rfl ?_
    rw [show (y : Int) + (bs : Int) = ((y + bs : Nat) : Int) by omega]
    refine XL.m ?_
    refine XL.m ?_
    refine XL.cw rfl (c211 y (y + bs) (y + 2 * bs) a b cap m ws hA hws hm (by omega) (by omega) (by omega)) (by repeat' constructor) rfl ?_
    rintro _ _ ⟨rfl, us2, hl2, hp2, rfl⟩
    refine XL.app1 ?_
    refine XL.n4 ?_
    refine XL.m ?_
    refine XL.a ?_
    refine XL.n3 ?_
    refine XL.m ?_
    refine XL.m ?_
    refine XL.mul_i64 (a := 2) (b := (bs : Int)) rfl rfl (by omega) (by omega) rfl ?_
    refine XL.add_i64 (a := ((y + 2 * bs : Nat) : Int)) (b := 2 * (bs : Int)) rfl rfl (by omega) (by omega) rfl ?_
    rw [show ((y + 2 * bs : Nat) : Int) + 2 * (bs : Int) = ((y + 2 * bs + 2 * bs : Nat) : Int) by omega]
    refine XL.a ?_
    refine XL.nil ?_
    refine Jp.block_normal ?_
    refine Jp.rd (y + 2 * bs, us2) ⟨by show y + 2 * bs ≤ m; omega, hl2, hp2.trans hpws⟩ (by show m - (y + 2 * bs) < m - y; omega)
   ·refine XL.n2 ?_
    refine SP.f ?_
    refine SP.exit ?_
    refine Jp.then_exit ?_
    refine Jp.then_exit ?_
    refine Jp.block_here ?_
    refine Jp.then_normal ?_
    refine SP.seq ?_
    refine SP.r2 ?_
    refine XL.m ?_
    refine XL.m ?_
    refine XL.add_i64 (a := (y : Int)) (b := (bs : Int)) rfl rfl (by omega) (by omega) rfl ?_
    rw [show (y : Int) + (bs : Int) = ((y + bs : Nat) : Int) by omega]
    refine XL.a ?_
    refine XL.n4 ?_
    refine XL.m ?_
    refine XL.m ?_
    refine XL.lss_s rfl rfl rfl (fun hmn => ?_) (fun hmn => ?_)
    ·refine XL.n2 ?_
     refine SP.t ?_
     refine SP.region ?_
     refine XL.m ?_
     refine XL.m ?_
     refine XL.m ?_
     refine XL.m ?_
     refine XL.m ?_
     refine XL.cw rfl (c211 y (y + bs) m a b cap m ws hA hws hm (by omega) (by omega) (by omega)) (by repeat' constructor) rfl ?_
     rintro _ _ ⟨rfl, us2, hl2, hp2, rfl⟩
     refine XL.app1 ?_
     refine XL.n3 ?_
     refine XL.m ?_
     refine XL.mul_i64 (a := (bs : Int)) (b := 2) rfl rfl (by omega) (by omega) rfl ?_
     rw [show (bs : Int) * 2 = ((bs * 2 : Nat) : Int) by omega]
     refine XL.a ?_
     refine XL.nil ?_
     refine Jp.block_normal ?_
     first
      | exact Jp.round (bs * 2, us2) ⟨by show 1 ≤ bs * 2; omega, by show bs * 2 ≤ 200000; omega, hl2, hp2.trans hpws⟩ (by show m - bs * 2 < m - bs; omega) (by repeat' constructor) (Pk.drop (by repeat' constructor))
      | exact Jp.round (bs * 2, ws) ⟨by show 1 ≤ bs * 2; omega, by show bs * 2 ≤ 200000; omega, hws, hpws⟩ (by show m - bs * 2 < m - bs; omega) (by repeat' constructor) (Pk.drop (by repeat' constructor))
    ·refine XL.n2 ?_
     refine SP.f ?_
     refine SP.skip ?_
     refine Jp.then_normal ?_
     refine SP.region ?_
     refine XL.m ?_
     refine XL.mul_i64 (a := (bs : Int)) (b := 2) rfl rfl (by omega) (by omega) rfl ?_
     rw [show (bs : Int) * 2 = ((bs * 2 : Nat) : Int) by omega]
     refine XL.a ?_
     refine XL.nil ?_
     refine Jp.block_normal ?_
     first
      | exact Jp.round (bs * 2, us2) ⟨by show 1 ≤ bs * 2; omega, by show bs * 2 ≤ 200000; omega, hl2, hp2.trans hpws⟩ (by show m - bs * 2 < m - bs; omega) (by repeat' constructor) (Pk.drop (by repeat' constructor))
      | exact Jp.round (bs * 2, ws) ⟨by show 1 ≤ bs * 2; omega, by show bs * 2 ≤ 200000; omega, hws, hpws⟩ (by show m - bs * 2 < m - bs; omega) (by repeat' constructor) (Pk.drop (by repeat' constructor))
  ·refine XL.n2 ?_
   refine SP.f ?_
   refine SP.exit ?_
   refine Jp.then_exit ?_
   refine Jp.then_exit ?_
   refine Jp.block_here ?_
   refine Jp.end0 (.inl rfl) rfl ⟨rfl, vs, hvs, hpvs, rfl⟩
theorem c199 (v : Value) (ts : List Tk) (hm : ts.length ≤ 100000) : Tri Tryz.prog 199 [v, .func (.func 200) #[] #[]] [TkS v ts] (fun r Γ' => r = .tuple #[] ∧ ∃ ts' : List Tk, ts'.Perm ts ∧ Γ' = [TkS v ts']) := by
 refine Pcalls (n := 9) Tryz.func199 rfl rfl rfl fun W0 H0 => ?_
 refine SP.slv (by repeat' constructor) ?_
 rintro a cap bb rfl hA hlx
 refine SP.region ?_
 refine XL.m ?_
 refine XL.m ?_
 refine XL.len (by rfl) (by rfl) ?_
 refine XL.m ?_
 refine XL.cw rfl (c206 a bb cap ts.length ts hA rfl hm) (by repeat' constructor) rfl ?_
 rintro _ _ ⟨rfl, us2, hl2, hp2, rfl⟩
 refine XL.app1 ?_
 refine XL.nil ?_
 exact Jp.go (toTk us2 hl2.symm rfl) (Jp.end0 (.inl rfl) rfl ⟨rfl, us2, hp2, rfl⟩)
def rdT (ts : List Tk) (now : Int) (i : Nat) : List Tk := (ts.take i).filter fun t => decide (t.due ≤ now)
theorem rdT_succ {ts : List Tk} {now : Int} {i : Nat} {t : Tk} (h : ts[i]? = some t) : rdT ts now (i + 1) = rdT ts now i ++ (if t.due ≤ now then [t] else []) := by
 unfold rdT
 rw [List.take_add_one, h]
 simp only [Option.toList_some, List.filter_append, List.filter_cons, List.filter_nil]
 split <;> simp_all
theorem rdT_le (ts : List Tk) (now : Int) (i : Nat) : (rdT ts now i).length ≤ ts.length := by
 unfold rdT
 have := List.length_filter_le (fun t : Tk => decide (t.due ≤ now)) (ts.take i)
 have := List.length_take_le i ts
 have : (ts.take i).length ≤ ts.length := by simp; omega
 omega
theorem c194 (b : Nat) (c : Ch) (now : Int) (hc : c.Ok) (hn : c.ticks.length ≤ 4096) : Tri Tryz.prog 194 [.pointer (some ⟨b, 0, none⟩), .int .i64 now] [pt b (cel c.cs 80), TkS c.tv c.ticks] (fun v Γ' => ∃ ts' : List Tk, ts'.Perm (rdT c.ticks now c.ticks.length) ∧ Γ' = [TkS v ts', pt b (cel c.cs 80), TkS c.tv c.ticks]) := by
 refine Pcalls (n := 30) Tryz.func194 rfl rfl rfl fun W0 H0 => ?_
 refine SP.slv (v := c.tv) (xs := c.ticks.flatMap Tk.cs) (m := c.ticks.length) (E := 103) (k := 2) (by repeat' constructor) ?_
 rintro a cap bb htv hA hlx
 refine SP.r2 ?_
 refine XL.a ?_
 refine XL.n5 ?_
 refine SP.r2 ?_
 refine XL.m ?_
 refine XL.pnnil_eql rfl rfl ?_
 refine XL.n2 ?_
 refine SP.f ?_
 refine SP.skip ?_
 refine Jp.then_normal ?_
 refine SP.seq ?_
 refine SP.r2 ?_
 refine XL.m ?_
 refine XL.nilCheck rfl rfl ?_
 refine XL.f ?_
 refine XL.load (v := .slice a c.ticks.length cap) (hv := by rw [← htv]; exact Ch.tv_at hc) rfl rfl ?_
 refine XL.len (by rfl) (by rfl) ?_
 refine XL.m ?_
 refine XL.weaken (star_nilS (E := 103) (k := 2)) ?_
 rw [htv]
 refine XL.n2 ?_
 refine SP.block ?_
 refine SP.loop (X := Nat × Value) (fun p => [(14, .int .i64 (p.1 : Int)), (13, .int .i64 (c.ticks.length : Int)), (12, .slice a c.ticks.length cap), (4, p.2), (1, .int .i64 now)]) (fun p => [TkS p.2 (rdT c.ticks now p.1), pt b (cel c.cs 80), TkS (.slice a c.ticks.length cap) c.ticks]) (fun p => p.1 ≤ c.ticks.length) (fun p => c.ticks.length - p.1) (0, .slice none 0 0) (Nat.zero_le _) (by repeat' constructor) (Pk.drop (by repeat' constructor)) ?_
 rintro ⟨i, v⟩ hi
 dsimp only at *
 refine SP.r2 ?_
 refine XL.lss_s rfl rfl rfl (fun hit => ?_) (fun hit => ?_)
 ·obtain ⟨t, hgt⟩ := get_of (l := c.ticks) rfl (show i < c.ticks.length by omega)
  obtain rfl := hA (by omega)
  have hrd := rdT_le c.ticks now i
  refine XL.n5 ?_
  refine SP.t ?_
  refine SP.skip ?_
  refine Jp.then_normal ?_
  refine SP.seq ?_
  refine SP.block ?_
  refine SP.r2 ?_
  refine XL.indexSl (r := i * 2) rfl rfl (by omega) (by omega) (by omega) rfl ?_
  refine XL.loadA (hs := SbL.flat Tk.len hgt rfl) rfl rfl ?_
  refine XL.alloc (by rfl) (fun b1 => ?_)
  refine XL.sA ?_
  refine XL.n4 ?_
  refine XL.f ?_
  refine XL.l ?_
  refine XL.m ?_
  refine XL.leq_s rfl rfl rfl (fun hq => ?_) (fun hq => ?_)
  ·refine XL.n2 ?_
   refine SP.t ?_
   refine SP.region ?_
   refine XL.m ?_
   refine XL.lA ?_
   refine XL.buildSlice (by rfl) (by rfl) (by rfl) (by decide) rfl (fun b3 => ?_)
   refine XL.append (k := 2) (z := [.int .i64 0, .int .i64 0]) (bt := 16) (xs := (rdT c.ticks now i).flatMap Tk.cs) (ys := t.cs) (m := (rdT c.ticks now i).length) (m2 := 1) rfl rfl ⟨_, Tryz.underlying78⟩ (by repeat' constructor) rfl rfl rfl (by omega) rfl rfl (fun v2 => ?_)
   refine XL.a ?_
   refine XL.nil ?_
   refine Jp.block_normal ?_
   refine Jp.then_normal ?_
   refine SP.region ?_
   refine XL.add_i64 rfl rfl (by omega) (by omega) rfl ?_
   refine XL.m ?_
   refine XL.nil ?_
   first
    | (have hq' := (hq : t.due ≤ now); exact Jp.gam (toTk (rdT c.ticks now (i + 1)) (by rw [rdT_succ hgt, if_pos hq']; simp) (by rw [rdT_succ hgt, if_pos hq']; simp)) (Jp.round (i + 1, v2) (by show i + 1 ≤ _; omega) (by show c.ticks.length - (i + 1) < c.ticks.length - i; omega) (by repeat' constructor) (Pk.drop (by repeat' constructor))))
    | (rw [show rdT c.ticks now i = rdT c.ticks now (i + 1) by rw [rdT_succ hgt, if_neg hq, List.append_nil]]; exact Jp.round (i + 1, v) (by show i + 1 ≤ _; omega) (by show c.ticks.length - (i + 1) < c.ticks.length - i; omega) (by repeat' constructor) (Pk.drop (by repeat' constructor)))
  ·refine XL.n2 ?_
   refine SP.f ?_
   refine SP.skip ?_
   refine Jp.block_normal ?_
   refine Jp.then_normal ?_
   refine SP.region ?_
   refine XL.add_i64 rfl rfl (by omega) (by omega) rfl ?_
   refine XL.m ?_
   refine XL.nil ?_
   first
    | (have hq' := (hq : t.due ≤ now); exact Jp.gam (toTk (rdT c.ticks now (i + 1)) (by rw [rdT_succ hgt, if_pos hq']; simp) (by rw [rdT_succ hgt, if_pos hq']; simp)) (Jp.round (i + 1, v2) (by show i + 1 ≤ _; omega) (by show c.ticks.length - (i + 1) < c.ticks.length - i; omega) (by repeat' constructor) (Pk.drop (by repeat' constructor))))
    | (rw [show rdT c.ticks now i = rdT c.ticks now (i + 1) by rw [rdT_succ hgt, if_neg hq, List.append_nil]]; exact Jp.round (i + 1, v) (by show i + 1 ≤ _; omega) (by show c.ticks.length - (i + 1) < c.ticks.length - i; omega) (by repeat' constructor) (Pk.drop (by repeat' constructor)))
 ·refine XL.n5 ?_
  refine SP.f ?_
  refine SP.exit ?_
  refine Jp.then_exit ?_
  refine Jp.then_exit ?_
  refine Jp.block_here ?_
  refine Jp.n4 ?_
  refine XL.m ?_
  have hrd := rdT_le c.ticks now i
  refine XL.cw rfl (c199 v (rdT c.ticks now i) (by omega)) (by repeat' constructor) rfl ?_
  rintro _ _ ⟨rfl, us2, hp2, rfl⟩
  refine XL.app1 ?_
  refine XL.n4 ?_
  refine XL.m ?_
  refine XL.a ?_
  refine XL.n2 ?_
  refine SP.ret ?_
  rw [← htv]
  obtain rfl : i = c.ticks.length := by omega
  refine Jp.end1 (.inr rfl) rfl rfl ⟨us2, hp2, rfl⟩
theorem c194_0 (now : Int) : Pur Tryz.prog 194 [.pointer none, .int .i64 now] (.slice none 0 0) := by
 refine Pcalls (n := 30) Tryz.func194 rfl rfl rfl fun W0 H0 => ?_
 refine SP.r2 ?_
 refine XL.a ?_
 refine XL.n5 ?_
 refine SP.r2 ?_
 refine XL.m ?_
 refine XL.pnil_eql rfl rfl ?_
 refine XL.n2 ?_
 refine SP.t ?_
 refine SP.r2 ?_
 refine XL.a ?_
 refine XL.n2 ?_
 refine SP.ret ?_
 refine Jp.then_ret ?_
 refine Jp.pur1 (.inr rfl) rfl rfl rfl
end Go.Proofs

namespace Go.Proofs
open Go.Bk
theorem zeroOf {P : Program} {T : TypeId} {v : Value} (h : (P.info? T).bind (·.zero) = some v) (w : World) : (zeroValue T).run P w = .ok v w := by
 obtain ⟨i, hi, hz⟩ := Option.bind_eq_some_iff.1 h
 unfold zeroValue
 rw [ok_of (run_info hi w), hz]; rfl
structure St where
 now : Int
 seed : Int
 a0 : Pl
 on0 : Bool
 a1 : Pl
 on1 : Bool
 placed : Int
 broken : Int
 grown : Int
 burnt : Int
@[reducible] def St.cs (s : St) (r : Nat) : List Value := [.int .i64 s.now, .int .u64 s.seed, .int .i64 s.a0.x, .int .i64 s.a0.y, .int .i64 s.a0.z, .bool s.on0, .int .i64 s.a1.x, .int .i64 s.a1.y, .int .i64 s.a1.z, .bool s.on1, .int .i64 s.placed, .int .i64 s.broken, .int .i64 s.grown, .int .i64 s.burnt, .map (some r)]
@[reducible] def Mb (m r : Nat) (s : St) : Asn := pt m (cel (St.cs s r) 70)
@[reducible] def pv (b : Nat) : Value := .pointer (some ⟨b, 0, none⟩)
@[reducible] def MpC (r : Nat) (l : List (Pl × Nat)) : Asn := MpR Pl.v pv r l
def spot (x y z : Int) : Pl := ⟨x / 16, y / 16, z / 16⟩
theorem idx_bd (x y z : Int) : 0 ≤ idx x y z ∧ idx x y z < 4096 := by unfold idx; omega
theorem spot_may {x y z : Int} (h : MayP x y z) : MayS (x / 16) (y / 16) (z / 16) := by unfold MayP at h; unfold MayS; omega
theorem c23 (m r : Nat) (s : St) : Tri Tryz.prog 23 [.pointer (some ⟨m, 0, none⟩)] [Mb m r s] (fun v Γ' => v = .bool true ∧ Γ' = [Mb m r s]) := by
 refine Pcalls (n := 12) Tryz.func23 rfl rfl rfl fun W0 H0 => ?_
 refine SP.r2 ?_
 refine XL.a ?_
 refine XL.n4 ?_
 refine XL.m ?_
 refine XL.pnnil_neq rfl rfl ?_
 refine XL.m ?_
 refine XL.g ?_
 refine XL.m ?_
 refine XL.g ?_
 refine XL.nilCheck rfl rfl ?_
 refine XL.g ?_
 refine XL.f ?_
 refine XL.g ?_
 refine XL.l ?_
 refine XL.g ?_
 refine XL.mnnil_neq rfl Tryz.underlying68 rfl ?_
 refine XL.pick_t rfl rfl rfl ?_
 refine XL.a ?_
 refine XL.n2 ?_
 refine SP.ret ?_
 refine Jp.end1 (.inr rfl) rfl rfl ⟨rfl, rfl⟩
theorem c11 (m r : Nat) (s : St) : Tri Tryz.prog 11 [.pointer (some ⟨m, 0, none⟩)] [Mb m r s] (fun v Γ' => v = .pointer (some ⟨m, 0, none⟩) ∧ Γ' = [Mb m r s]) := by
 refine Pcalls (n := 9) Tryz.func11 rfl rfl rfl fun W0 H0 => ?_
 refine SP.r2 ?_
 refine XL.a ?_
 refine XL.n5 ?_
 refine SP.r2 ?_
 refine XL.m ?_
 refine XL.cr rfl (c23 m r s) (by repeat' constructor) rfl ?_
 refine XL.not_t rfl rfl ?_
 refine XL.n2 ?_
 refine SP.f ?_
 refine SP.skip ?_
 refine Jp.n4 ?_
 refine XL.m ?_
 refine XL.nilCheck rfl rfl ?_
 refine XL.f ?_
 refine XL.a ?_
 refine XL.n2 ?_
 refine SP.ret ?_
 refine Jp.end1 (.inr rfl) rfl rfl ⟨rfl, rfl⟩
theorem c12 (seed : Int) : Tri Tryz.prog 12 [.int .u64 seed] [] (fun v Γ' => ∃ m r, v = .pointer (some ⟨m, 0, none⟩) ∧ Γ' = [Mb m r ⟨0, seed, ⟨0, 0, 0⟩, false, ⟨0, 0, 0⟩, false, 0, 0, 0, 0⟩, MpC r []]) := by
 refine Pcalls (n := 8) Tryz.func12 rfl rfl rfl fun W0 H0 => ?_
 refine SP.r2 ?_
 refine XL.a ?_
 refine XL.n4 ?_
 refine XL.m ?_
 refine XL.build (by rfl) (by rfl) ?_
 refine XL.makeMap (ek := Pl.v) (ev' := pv) rfl (fun r => ?_)
 refine XL.build (by rfl) (by rfl) ?_
 refine XL.boxA rfl rfl (fun b1 => ?_)
 refine XL.a ?_
 refine XL.n2 ?_
 refine SP.ret ?_
 refine Jp.end1 (.inr rfl) rfl rfl ⟨_, _, rfl, rfl⟩
theorem c188 (m r : Nat) (s : St) (l : List (Pl × Nat)) (x y z : Int) (hp : MayP x y z) : Tri Tryz.prog 188 [.pointer (some ⟨m, 0, none⟩), .agg #[.int .i64 x, .int .i64 y, .int .i64 z]] [Mb m r s, MpC r l] (fun v Γ' => v = .tuple #[(((getM l (spot x y z)).map pv).getD (.pointer none)), .int .i64 (idx x y z)] ∧ Γ' = [Mb m r s, MpC r l]) := by
 refine Pcalls (n := 34) Tryz.func188 rfl rfl rfl fun W0 H0 => ?_
 refine SP.r2 ?_
 refine XL.boxA rfl rfl (fun b1 => ?_)
 refine XL.a ?_
 refine XL.a ?_
 refine XL.n4 ?_
 refine XL.lA ?_
 refine XL.cp rfl (c_Spot_t x y z hp) rfl ?_
 refine XL.m ?_
 refine XL.x ?_
 refine XL.x ?_
 refine XL.alloc (by rfl) (fun b2 => ?_)
 refine XL.sA ?_
 refine XL.a ?_
 refine XL.n5 ?_
 refine SP.r2 ?_
 refine XL.m ?_
 refine XL.not_t rfl rfl ?_
 refine XL.m ?_
 refine XL.g ?_
 refine XL.m ?_
 refine XL.g ?_
 refine XL.cr rfl (c23 m r s) (by repeat' constructor) rfl ?_
 refine XL.g ?_
 refine XL.not_t rfl rfl ?_
 refine XL.pick_f rfl rfl rfl ?_
 refine XL.n2 ?_
 refine SP.f ?_
 refine SP.skip ?_
 refine Jp.n4 ?_
 refine XL.lA ?_
 refine XL.cp rfl (c_Index_t x y z hp) rfl ?_
 refine XL.m ?_
 refine XL.x ?_
 refine XL.x ?_
 refine XL.a ?_
 refine XL.a ?_
 refine XL.n5 ?_
 refine SP.quiet Tryz.fol (by kernel_rfl) ?_
 refine XL.m ?_
 refine XL.nilCheck rfl rfl ?_
 refine XL.f ?_
 refine XL.l ?_
 refine XL.lA ?_
 refine XL.lookup (z := .pointer none) (k := spot x y z) (ek := Pl.v) (ev' := pv) (l := l) rfl rfl (by repeat' constructor) (zeroOf (by kernel_rfl)) rfl ?_
 refine XL.m ?_
 refine XL.a ?_
 refine XL.a ?_
 refine XL.nilq_end ?_
 refine Jp.then_normal ?_
 refine SP.ret ?_
 refine Jp.go (Pk.drop (Γ1 := [Mb m r s, MpC r l]) (by repeat' constructor)) (Jp.end2 (.inr rfl) rfl rfl rfl ⟨rfl, rfl⟩)
theorem at_some (m r : Nat) (s : St) (l : List (Pl × Nat)) (x y z : Int) (hp : MayP x y z) {b : Nat} (hg : getM l (spot x y z) = some b) : Tri Tryz.prog 188 [.pointer (some ⟨m, 0, none⟩), .agg #[.int .i64 x, .int .i64 y, .int .i64 z]] [Mb m r s, MpC r l] (fun v Γ' => v = .tuple #[.pointer (some ⟨b, 0, none⟩), .int .i64 (idx x y z)] ∧ Γ' = [Mb m r s, MpC r l]) := by
 have := c188 m r s l x y z hp; rw [hg] at this; exact this
theorem at_none (m r : Nat) (s : St) (l : List (Pl × Nat)) (x y z : Int) (hp : MayP x y z) (hg : getM l (spot x y z) = none) : Tri Tryz.prog 188 [.pointer (some ⟨m, 0, none⟩), .agg #[.int .i64 x, .int .i64 y, .int .i64 z]] [Mb m r s, MpC r l] (fun v Γ' => v = .tuple #[.pointer none, .int .i64 (idx x y z)] ∧ Γ' = [Mb m r s, MpC r l]) := by
 have := c188 m r s l x y z hp; rw [hg] at this; exact this
theorem own_some (m r : Nat) (s : St) (l : List (Pl × Nat)) (x y z : Int) (hp : MayP x y z) {b : Nat} (hg : getM l (spot x y z) = some b) : Tri Tryz.prog 193 [.pointer (some ⟨m, 0, none⟩), .agg #[.int .i64 x, .int .i64 y, .int .i64 z]] [Mb m r s, MpC r l] (fun v Γ' => v = .tuple #[.pointer (some ⟨b, 0, none⟩), .int .i64 (idx x y z)] ∧ Γ' = [Mb m r s, MpC r l]) := by
 refine Pcalls (n := 43) Tryz.func193 rfl rfl rfl fun W0 H0 => ?_
 refine SP.r2 ?_
 refine XL.boxA rfl rfl (fun b1 => ?_)
 refine XL.a ?_
 refine XL.a ?_
 refine XL.n4 ?_
 refine XL.lA ?_
 refine XL.cp rfl (c_Spot_t x y z hp) rfl ?_
 refine XL.m ?_
 refine XL.x ?_
 refine XL.x ?_
 refine XL.alloc (by rfl) (fun b2 => ?_)
 refine XL.sA ?_
 refine XL.a ?_
 refine XL.n5 ?_
 refine SP.r2 ?_
 refine XL.m ?_
 refine XL.not_t rfl rfl ?_
 refine XL.m ?_
 refine XL.g ?_
 refine XL.m ?_
 refine XL.g ?_
 refine XL.cr rfl (c23 m r s) (by repeat' constructor) rfl ?_
 refine XL.g ?_
 refine XL.not_t rfl rfl ?_
 refine XL.pick_f rfl rfl rfl ?_
 refine XL.n2 ?_
 refine SP.f ?_
 refine SP.skip ?_
 refine Jp.n4 ?_
 refine XL.m ?_
 refine XL.lA ?_
 refine XL.cr rfl (at_some m r s l x y z hp hg) (by repeat' constructor) rfl ?_
 refine XL.m ?_
 refine XL.x ?_
 refine XL.x ?_
 refine XL.a ?_
 refine XL.a ?_
 refine XL.n5 ?_
 refine SP.r2 ?_
 refine XL.m ?_
 refine XL.pnnil_eql rfl rfl ?_
 refine XL.n2 ?_
 refine SP.f ?_
 refine SP.skip ?_
 refine Jp.n4 ?_
 refine XL.m ?_
 refine XL.m ?_
 refine XL.a ?_
 refine XL.a ?_
 refine XL.n2 ?_
 refine SP.ret ?_
 refine Jp.go (Pk.drop (Γ1 := [Mb m r s, MpC r l]) (by repeat' constructor)) (Jp.end2 (.inr rfl) rfl rfl rfl ⟨rfl, rfl⟩)
theorem own_none (m r : Nat) (s : St) (l : List (Pl × Nat)) (x y z : Int) (hp : MayP x y z) (hg : getM l (spot x y z) = none) : Tri Tryz.prog 193 [.pointer (some ⟨m, 0, none⟩), .agg #[.int .i64 x, .int .i64 y, .int .i64 z]] [Mb m r s, MpC r l] (fun v Γ' => ∃ b, v = .tuple #[.pointer (some ⟨b, 0, none⟩), .int .i64 (idx x y z)] ∧ Γ' = [Mb m r s, MpC r (setM l (spot x y z) b), pt b (cel (landCh (y / 16)).cs 80)]) := by
 refine Pcalls (n := 43) Tryz.func193 rfl rfl rfl fun W0 H0 => ?_
 refine SP.r2 ?_
 refine XL.boxA rfl rfl (fun b1 => ?_)
 refine XL.a ?_
 refine XL.a ?_
 refine XL.n4 ?_
 refine XL.lA ?_
 refine XL.cp rfl (c_Spot_t x y z hp) rfl ?_
 refine XL.m ?_
 refine XL.x ?_
 refine XL.x ?_
 refine XL.alloc (by rfl) (fun b2 => ?_)
 refine XL.sA ?_
 refine XL.a ?_
 refine XL.n5 ?_
 refine SP.r2 ?_
 refine XL.m ?_
 refine XL.not_t rfl rfl ?_
 refine XL.m ?_
 refine XL.g ?_
 refine XL.m ?_
 refine XL.g ?_
 refine XL.cr rfl (c23 m r s) (by repeat' constructor) rfl ?_
 refine XL.g ?_
 refine XL.not_t rfl rfl ?_
 refine XL.pick_f rfl rfl rfl ?_
 refine XL.n2 ?_
 refine SP.f ?_
 refine SP.skip ?_
 refine Jp.n4 ?_
 refine XL.m ?_
 refine XL.lA ?_
 refine XL.cr rfl (at_none m r s l x y z hp hg) (by repeat' constructor) rfl ?_
 refine XL.m ?_
 refine XL.x ?_
 refine XL.x ?_
 refine XL.a ?_
 refine XL.a ?_
 refine XL.n5 ?_
 refine SP.r2 ?_
 refine XL.m ?_
 refine XL.pnil_eql rfl rfl ?_
 refine XL.n2 ?_
 refine SP.t ?_
 refine SP.r2 ?_
 refine XL.lA ?_
 refine XL.cw rfl (c_Chunk_t (x / 16) (y / 16) (z / 16) (spot_may hp)) (Pk.nil _) rfl ?_
 rintro _ _ ⟨b, rfl, rfl⟩
 refine XL.app1 ?_
 refine XL.m ?_
 refine XL.x ?_
 refine XL.x ?_
 refine XL.a ?_
 refine XL.n2 ?_
 refine SP.tail 6 Tryz.fol (by kernel_rfl) ?_
 refine XL.m ?_
 refine XL.nilCheck rfl rfl ?_
 refine XL.f ?_
 refine XL.l ?_
 refine XL.lA ?_
 refine XL.m ?_
 refine XL.nilq_tail ?_
 refine XL.mapUpdate (k := spot x y z) (v := b) (ek := Pl.v) (ev' := pv) (l := l) rfl rfl rfl (by repeat' constructor) ?_
 refine XL.n4 ?_
 refine XL.m ?_
 refine XL.m ?_
 refine XL.a ?_
 refine XL.a ?_
 refine XL.n2 ?_
 refine SP.ret ?_
 refine Jp.go (Pk.drop (Γ1 := [Mb m r s, MpC r (setM l (spot x y z) b), pt b (cel (landCh (y / 16)).cs 80)]) (by repeat' constructor)) (Jp.end2 (.inr rfl) rfl rfl rfl ⟨b, rfl, rfl⟩)
end Go.Proofs

namespace Go.Proofs
open Go.Bk
theorem Cell_some (m r : Nat) (s : St) (l : List (Pl × Nat)) (x y z : Int) (hp : MayP x y z) {b : Nat} (hg : getM l (spot x y z) = some b) (c : Ch) (hc : c.Ok) (ce : C2) (hgi : c.cells[(idx x y z).toNat]? = some ce) : Tri Tryz.prog 180 [.pointer (some ⟨m, 0, none⟩), .agg #[.int .i64 x, .int .i64 y, .int .i64 z]] [Mb m r s, MpC r l, pt b (cel c.cs 80)] (fun v Γ' => v = ce.v ∧ Γ' = [Mb m r s, MpC r l, pt b (cel c.cs 80)]) := by
 refine Pcalls (n := 27) Tryz.func180 rfl rfl rfl fun W0 H0 => ?_
 have hb := idx_bd x y z
 refine SP.r2 ?_
 refine XL.boxA rfl rfl (fun b1 => ?_)
 refine XL.alloc (by rfl) (fun b2 => ?_)
 refine XL.n5 ?_
 refine SP.r2 ?_
 refine XL.m ?_
 refine XL.lA ?_
 refine XL.cr rfl (at_some m r s l x y z hp hg) (by repeat' constructor) rfl ?_
 refine XL.m ?_
 refine XL.x ?_
 refine XL.x ?_
 refine XL.a ?_
 refine XL.a ?_
 refine XL.n4 ?_
 refine XL.m ?_
 refine XL.pnnil_neq rfl rfl ?_
 refine XL.n2 ?_
 refine SP.t ?_
 refine SP.r2 ?_
 refine XL.m ?_
 refine XL.m ?_
 refine XL.nilCheck rfl rfl ?_
 refine XL.f ?_
 refine XL.indexArr (r := (idx x y z).toNat * 2) rfl rfl (by omega) (by omega) (by simp) rfl ?_
 refine XL.loadA (hs := Ch.cell_at hgi rfl) rfl rfl ?_
 refine XL.sA ?_
 refine XL.n2 ?_
 refine SP.ret ?_
 refine Jp.then_ret ?_
 have hr := hc
 exact Jp.endcG (.inr rfl) rfl (Res.cellA (by rfl)) (Pk.drop (Γ1 := [Mb m r s, MpC r l, pt b (cel c.cs 80)]) (by repeat' constructor)) ⟨rfl, rfl⟩
theorem Cell_none (m r : Nat) (s : St) (l : List (Pl × Nat)) (x y z : Int) (hp : MayP x y z) (hg : getM l (spot x y z) = none) : Tri Tryz.prog 180 [.pointer (some ⟨m, 0, none⟩), .agg #[.int .i64 x, .int .i64 y, .int .i64 z]] [Mb m r s, MpC r l] (fun v Γ' => v = .agg #[.int .u8 (landK y), .int .u8 0] ∧ Γ' = [Mb m r s, MpC r l]) := by
 refine Pcalls (n := 27) Tryz.func180 rfl rfl rfl fun W0 H0 => ?_
 refine SP.r2 ?_
 refine XL.boxA rfl rfl (fun b1 => ?_)
 refine XL.alloc (by rfl) (fun b2 => ?_)
 refine XL.n5 ?_
 refine SP.r2 ?_
 refine XL.m ?_
 refine XL.lA ?_
 refine XL.cr rfl (at_none m r s l x y z hp hg) (by repeat' constructor) rfl ?_
 refine XL.m ?_
 refine XL.x ?_
 refine XL.x ?_
 refine XL.a ?_
 refine XL.a ?_
 refine XL.n4 ?_
 refine XL.m ?_
 refine XL.pnil_neq rfl rfl ?_
 refine XL.n2 ?_
 refine SP.f ?_
 refine SP.skip ?_
 refine Jp.then_normal ?_
 refine SP.seq ?_
 refine SP.r2 ?_
 refine XL.m ?_
 refine XL.cr rfl (c23 m r s) (by repeat' constructor) rfl ?_
 refine XL.not_t rfl rfl ?_
 refine XL.n2 ?_
 refine SP.f ?_
 refine SP.skip ?_
 refine Jp.n4 ?_
 refine XL.lA ?_
 refine XL.cp rfl (c_Cell_t x y z hp) rfl ?_
 refine XL.sA ?_
 refine XL.n2 ?_
 refine SP.ret ?_
 exact Jp.endcG (.inr rfl) rfl (Res.cellA (by rfl)) (Pk.drop (Γ1 := [Mb m r s, MpC r l]) (by repeat' constructor)) ⟨rfl, rfl⟩
theorem Light_some (m r : Nat) (s : St) (l : List (Pl × Nat)) (x y z : Int) (hp : MayP x y z) {b : Nat} (hg : getM l (spot x y z) = some b) (c : Ch) (hc : c.Ok) (ce : C2) (hgi : c.lights[(idx x y z).toNat]? = some ce) : Tri Tryz.prog 183 [.pointer (some ⟨m, 0, none⟩), .agg #[.int .i64 x, .int .i64 y, .int .i64 z]] [Mb m r s, MpC r l, pt b (cel c.cs 80)] (fun v Γ' => v = ce.v ∧ Γ' = [Mb m r s, MpC r l, pt b (cel c.cs 80)]) := by
 refine Pcalls (n := 27) Tryz.func183 rfl rfl rfl fun W0 H0 => ?_
 have hb := idx_bd x y z
 refine SP.r2 ?_
 refine XL.boxA rfl rfl (fun b1 => ?_)
 refine XL.alloc (by rfl) (fun b2 => ?_)
 refine XL.n5 ?_
 refine SP.r2 ?_
 refine XL.m ?_
 refine XL.lA ?_
 refine XL.cr rfl (at_some m r s l x y z hp hg) (by repeat' constructor) rfl ?_
 refine XL.m ?_
 refine XL.x ?_
 refine XL.x ?_
 refine XL.a ?_
 refine XL.a ?_
 refine XL.n4 ?_
 refine XL.m ?_
 refine XL.pnnil_neq rfl rfl ?_
 refine XL.n2 ?_
 refine SP.t ?_
 refine SP.r2 ?_
 refine XL.m ?_
 refine XL.m ?_
 refine XL.nilCheck rfl rfl ?_
 refine XL.f ?_
 refine XL.indexArr (r := 8192 + (idx x y z).toNat * 2) rfl rfl (by omega) (by omega) (by simp) rfl ?_
 refine XL.loadA (hs := Ch.light_at hc hgi rfl) rfl rfl ?_
 refine XL.sA ?_
 refine XL.n2 ?_
 refine SP.ret ?_
 refine Jp.then_ret ?_
 have hr := hc
 exact Jp.endcG (.inr rfl) rfl (Res.cellA (by rfl)) (Pk.drop (Γ1 := [Mb m r s, MpC r l, pt b (cel c.cs 80)]) (by repeat' constructor)) ⟨rfl, rfl⟩
theorem Light_none (m r : Nat) (s : St) (l : List (Pl × Nat)) (x y z : Int) (hp : MayP x y z) (hg : getM l (spot x y z) = none) : Tri Tryz.prog 183 [.pointer (some ⟨m, 0, none⟩), .agg #[.int .i64 x, .int .i64 y, .int .i64 z]] [Mb m r s, MpC r l] (fun v Γ' => v = .agg #[.int .u8 ((landLit y).a), .int .u8 0] ∧ Γ' = [Mb m r s, MpC r l]) := by
 refine Pcalls (n := 27) Tryz.func183 rfl rfl rfl fun W0 H0 => ?_
 refine SP.r2 ?_
 refine XL.boxA rfl rfl (fun b1 => ?_)
 refine XL.alloc (by rfl) (fun b2 => ?_)
 refine XL.n5 ?_
 refine SP.r2 ?_
 refine XL.m ?_
 refine XL.lA ?_
 refine XL.cr rfl (at_none m r s l x y z hp hg) (by repeat' constructor) rfl ?_
 refine XL.m ?_
 refine XL.x ?_
 refine XL.x ?_
 refine XL.a ?_
 refine XL.a ?_
 refine XL.n4 ?_
 refine XL.m ?_
 refine XL.pnil_neq rfl rfl ?_
 refine XL.n2 ?_
 refine SP.f ?_
 refine SP.skip ?_
 refine Jp.then_normal ?_
 refine SP.seq ?_
 refine SP.r2 ?_
 refine XL.m ?_
 refine XL.cr rfl (c23 m r s) (by repeat' constructor) rfl ?_
 refine XL.not_t rfl rfl ?_
 refine XL.n2 ?_
 refine SP.f ?_
 refine SP.skip ?_
 refine Jp.n4 ?_
 refine XL.lA ?_
 refine XL.cp rfl (c_Light_t x y z hp) rfl ?_
 refine XL.sA ?_
 refine XL.n2 ?_
 refine SP.ret ?_
 exact Jp.endcG (.inr rfl) rfl (Res.cellA (by rfl)) (Pk.drop (Γ1 := [Mb m r s, MpC r l]) (by repeat' constructor)) ⟨rfl, rfl⟩
theorem Put_some (m r : Nat) (s : St) (l : List (Pl × Nat)) (x y z : Int) (hp : MayP x y z) {b : Nat} (hg : getM l (spot x y z) = some b) (c : Ch) (hc : c.Ok) (ce : C2) : Tri Tryz.prog 185 [.pointer (some ⟨m, 0, none⟩), .agg #[.int .i64 x, .int .i64 y, .int .i64 z], .agg #[.int .u8 ce.a, .int .u8 ce.b]] [Mb m r s, MpC r l, pt b (cel c.cs 80)] (fun v Γ' => v = .tuple #[] ∧ Γ' = [Mb m r s, MpC r l, pt b (cel ({ c with cells := (c).cells.set (idx x y z).toNat ce } : Ch).cs 80)]) := by
 refine Pcalls (n := 22) Tryz.func185 rfl rfl rfl fun W0 H0 => ?_
 have hb := idx_bd x y z
 refine SP.r2 ?_
 refine XL.boxA rfl rfl (fun b1 => ?_)
 refine XL.boxA rfl rfl (fun b2 => ?_)
 refine XL.n4 ?_
 refine XL.m ?_
 refine XL.lA ?_
 refine XL.cr rfl (own_some m r s l x y z hp hg) (by repeat' constructor) rfl ?_
 refine XL.m ?_
 refine XL.x ?_
 refine XL.x ?_
 refine XL.a ?_
 refine XL.a ?_
 refine XL.n4 ?_
 refine XL.m ?_
 refine XL.pnnil_neq rfl rfl ?_
 refine XL.n2 ?_
 refine SP.t ?_
 refine SP.tail 6 Tryz.fol (by kernel_rfl) ?_
 refine XL.m ?_
 refine XL.m ?_
 refine XL.lA ?_
 refine XL.nilCheck rfl rfl ?_
 refine XL.f ?_
 refine XL.indexArr (r := (idx x y z).toNat * 2) rfl rfl (by omega) (by omega) (by simp) rfl ?_
 refine XL.nilq_tail ?_
 refine XL.storeA (vs := ce.cs) (hs := Ch.cell_set hc (i := (idx x y z).toNat) ce (by omega) rfl) rfl rfl rfl rfl ?_
 refine XL.nil ?_
 exact Jp.go (Pk.drop (Γ1 := [Mb m r s, MpC r l, pt b (cel ({ c with cells := (c).cells.set (idx x y z).toNat ce } : Ch).cs 80)]) (by repeat' constructor)) (Jp.end0 (.inl rfl) rfl ⟨rfl, rfl⟩)
theorem Put_none (m r : Nat) (s : St) (l : List (Pl × Nat)) (x y z : Int) (hp : MayP x y z) (hg : getM l (spot x y z) = none) (ce : C2) : Tri Tryz.prog 185 [.pointer (some ⟨m, 0, none⟩), .agg #[.int .i64 x, .int .i64 y, .int .i64 z], .agg #[.int .u8 ce.a, .int .u8 ce.b]] [Mb m r s, MpC r l] (fun v Γ' => v = .tuple #[] ∧ ∃ b, Γ' = [Mb m r s, MpC r (setM l (spot x y z) b), pt b (cel ({ landCh (y / 16) with cells := (landCh (y / 16)).cells.set (idx x y z).toNat ce } : Ch).cs 80)]) := by
 refine Pcalls (n := 22) Tryz.func185 rfl rfl rfl fun W0 H0 => ?_
 have hb := idx_bd x y z
 have hc : (landCh (y / 16)).Ok := chA_ok _ _ _
 refine SP.r2 ?_
 refine XL.boxA rfl rfl (fun b1 => ?_)
 refine XL.boxA rfl rfl (fun b2 => ?_)
 refine XL.n4 ?_
 refine XL.m ?_
 refine XL.lA ?_
 refine XL.cw rfl (own_none m r s l x y z hp hg) (by repeat' constructor) rfl ?_
 rintro _ _ ⟨b, rfl, rfl⟩
 refine XL.app3 ?_
 refine XL.m ?_
 refine XL.x ?_
 refine XL.x ?_
 refine XL.a ?_
 refine XL.a ?_
 refine XL.n4 ?_
 refine XL.m ?_
 refine XL.pnnil_neq rfl rfl ?_
 refine XL.n2 ?_
 refine SP.t ?_
 refine SP.tail 6 Tryz.fol (by kernel_rfl) ?_
 refine XL.m ?_
 refine XL.m ?_
 refine XL.lA ?_
 refine XL.nilCheck rfl rfl ?_
 refine XL.f ?_
 refine XL.indexArr (r := (idx x y z).toNat * 2) rfl rfl (by omega) (by omega) (by simp) rfl ?_
 refine XL.nilq_tail ?_
 refine XL.storeA (vs := ce.cs) (hs := Ch.cell_set hc (i := (idx x y z).toNat) ce (by omega) rfl) rfl rfl rfl rfl ?_
 refine XL.nil ?_
 exact Jp.go (Pk.drop (Γ1 := [Mb m r s, MpC r (setM l (spot x y z) b), pt b (cel ({ landCh (y / 16) with cells := (landCh (y / 16)).cells.set (idx x y z).toNat ce } : Ch).cs 80)]) (by repeat' constructor)) (Jp.end0 (.inl rfl) rfl ⟨rfl, b, rfl⟩)
theorem Lit_some (m r : Nat) (s : St) (l : List (Pl × Nat)) (x y z : Int) (hp : MayP x y z) {b : Nat} (hg : getM l (spot x y z) = some b) (c : Ch) (hc : c.Ok) (ce : C2) : Tri Tryz.prog 184 [.pointer (some ⟨m, 0, none⟩), .agg #[.int .i64 x, .int .i64 y, .int .i64 z], .agg #[.int .u8 ce.a, .int .u8 ce.b]] [Mb m r s, MpC r l, pt b (cel c.cs 80)] (fun v Γ' => v = .tuple #[] ∧ Γ' = [Mb m r s, MpC r l, pt b (cel ({ c with lights := (c).lights.set (idx x y z).toNat ce } : Ch).cs 80)]) := by
 refine Pcalls (n := 22) Tryz.func184 rfl rfl rfl fun W0 H0 => ?_
 have hb := idx_bd x y z
 refine SP.r2 ?_
 refine XL.boxA rfl rfl (fun b1 => ?_)
 refine XL.boxA rfl rfl (fun b2 => ?_)
 refine XL.n4 ?_
 refine XL.m ?_
 refine XL.lA ?_
 refine XL.cr rfl (own_some m r s l x y z hp hg) (by repeat' constructor) rfl ?_
 refine XL.m ?_
 refine XL.x ?_
 refine XL.x ?_
 refine XL.a ?_
 refine XL.a ?_
 refine XL.n4 ?_
 refine XL.m ?_
 refine XL.pnnil_neq rfl rfl ?_
 refine XL.n2 ?_
 refine SP.t ?_
 refine SP.tail 6 Tryz.fol (by kernel_rfl) ?_
 refine XL.m ?_
 refine XL.m ?_
 refine XL.lA ?_
 refine XL.nilCheck rfl rfl ?_
 refine XL.f ?_
 refine XL.indexArr (r := 8192 + (idx x y z).toNat * 2) rfl rfl (by omega) (by omega) (by simp) rfl ?_
 refine XL.nilq_tail ?_
 refine XL.storeA (vs := ce.cs) (hs := Ch.light_set hc (i := (idx x y z).toNat) ce (by omega) rfl) rfl rfl rfl rfl ?_
 refine XL.nil ?_
 exact Jp.go (Pk.drop (Γ1 := [Mb m r s, MpC r l, pt b (cel ({ c with lights := (c).lights.set (idx x y z).toNat ce } : Ch).cs 80)]) (by repeat' constructor)) (Jp.end0 (.inl rfl) rfl ⟨rfl, rfl⟩)
theorem Lit_none (m r : Nat) (s : St) (l : List (Pl × Nat)) (x y z : Int) (hp : MayP x y z) (hg : getM l (spot x y z) = none) (ce : C2) : Tri Tryz.prog 184 [.pointer (some ⟨m, 0, none⟩), .agg #[.int .i64 x, .int .i64 y, .int .i64 z], .agg #[.int .u8 ce.a, .int .u8 ce.b]] [Mb m r s, MpC r l] (fun v Γ' => v = .tuple #[] ∧ ∃ b, Γ' = [Mb m r s, MpC r (setM l (spot x y z) b), pt b (cel ({ landCh (y / 16) with lights := (landCh (y / 16)).lights.set (idx x y z).toNat ce } : Ch).cs 80)]) := by
 refine Pcalls (n := 22) Tryz.func184 rfl rfl rfl fun W0 H0 => ?_
 have hb := idx_bd x y z
 have hc : (landCh (y / 16)).Ok := chA_ok _ _ _
 refine SP.r2 ?_
 refine XL.boxA rfl rfl (fun b1 => ?_)
 refine XL.boxA rfl rfl (fun b2 => ?_)
 refine XL.n4 ?_
 refine XL.m ?_
 refine XL.lA ?_
 refine XL.cw rfl (own_none m r s l x y z hp hg) (by repeat' constructor) rfl ?_
 rintro _ _ ⟨b, rfl, rfl⟩
 refine XL.app3 ?_
 refine XL.m ?_
 refine XL.x ?_
 refine XL.x ?_
 refine XL.a ?_
 refine XL.a ?_
 refine XL.n4 ?_
 refine XL.m ?_
 refine XL.pnnil_neq rfl rfl ?_
 refine XL.n2 ?_
 refine SP.t ?_
 refine SP.tail 6 Tryz.fol (by kernel_rfl) ?_
 refine XL.m ?_
 refine XL.m ?_
 refine XL.lA ?_
 refine XL.nilCheck rfl rfl ?_
 refine XL.f ?_
 refine XL.indexArr (r := 8192 + (idx x y z).toNat * 2) rfl rfl (by omega) (by omega) (by simp) rfl ?_
 refine XL.nilq_tail ?_
 refine XL.storeA (vs := ce.cs) (hs := Ch.light_set hc (i := (idx x y z).toNat) ce (by omega) rfl) rfl rfl rfl rfl ?_
 refine XL.nil ?_
 exact Jp.go (Pk.drop (Γ1 := [Mb m r s, MpC r (setM l (spot x y z) b), pt b (cel ({ landCh (y / 16) with lights := (landCh (y / 16)).lights.set (idx x y z).toNat ce } : Ch).cs 80)]) (by repeat' constructor)) (Jp.end0 (.inl rfl) rfl ⟨rfl, b, rfl⟩)
theorem Due_some (m r : Nat) (s : St) (l : List (Pl × Nat)) (x y z : Int) (hp : MayP x y z) {b : Nat} (hg : getM l (spot x y z) = some b) (c : Ch) (hc : c.Ok) (hn : c.ticks.length ≤ 4096) : Tri Tryz.prog 182 [.pointer (some ⟨m, 0, none⟩), .agg #[.int .i64 x, .int .i64 y, .int .i64 z]] [Mb m r s, MpC r l, pt b (cel c.cs 80), TkS c.tv c.ticks] (fun v Γ' => v = .int .i64 (dueT c.ticks (idx x y z)) ∧ Γ' = [Mb m r s, MpC r l, pt b (cel c.cs 80), TkS c.tv c.ticks]) := by
 refine Pcalls (n := 16) Tryz.func182 rfl rfl rfl fun W0 H0 => ?_
 have hb := idx_bd x y z
 refine SP.r2 ?_
 refine XL.boxA rfl rfl (fun b1 => ?_)
 refine XL.a ?_
 refine XL.n4 ?_
 refine XL.m ?_
 refine XL.lA ?_
 refine XL.cr rfl (at_some m r s l x y z hp hg) (by repeat' constructor) rfl ?_
 refine XL.m ?_
 refine XL.x ?_
 refine XL.x ?_
 refine XL.a ?_
 refine XL.a ?_
 refine XL.n4 ?_
 refine XL.m ?_
 refine XL.m ?_
 refine XL.cr rfl (c191 b c (idx x y z) hc hn hb.1 hb.2) (by repeat' constructor) rfl ?_
 refine XL.a ?_
 refine XL.n2 ?_
 refine SP.ret ?_
 exact Jp.go (Pk.drop (Γ1 := [Mb m r s, MpC r l, pt b (cel c.cs 80), TkS c.tv c.ticks]) (by repeat' constructor)) (Jp.end1 (.inr rfl) rfl rfl ⟨rfl, rfl⟩)
theorem Due_none (m r : Nat) (s : St) (l : List (Pl × Nat)) (x y z : Int) (hp : MayP x y z) (hg : getM l (spot x y z) = none) : Tri Tryz.prog 182 [.pointer (some ⟨m, 0, none⟩), .agg #[.int .i64 x, .int .i64 y, .int .i64 z]] [Mb m r s, MpC r l] (fun v Γ' => v = .int .i64 0 ∧ Γ' = [Mb m r s, MpC r l]) := by
 refine Pcalls (n := 16) Tryz.func182 rfl rfl rfl fun W0 H0 => ?_
 have hb := idx_bd x y z
 refine SP.r2 ?_
 refine XL.boxA rfl rfl (fun b1 => ?_)
 refine XL.a ?_
 refine XL.n4 ?_
 refine XL.m ?_
 refine XL.lA ?_
 refine XL.cr rfl (at_none m r s l x y z hp hg) (by repeat' constructor) rfl ?_
 refine XL.m ?_
 refine XL.x ?_
 refine XL.x ?_
 refine XL.a ?_
 refine XL.a ?_
 refine XL.n4 ?_
 refine XL.m ?_
 refine XL.m ?_
 refine XL.cp rfl (c191_0 (idx x y z)) rfl ?_
 refine XL.a ?_
 refine XL.n2 ?_
 refine SP.ret ?_
 exact Jp.go (Pk.drop (Γ1 := [Mb m r s, MpC r l]) (by repeat' constructor)) (Jp.end1 (.inr rfl) rfl rfl ⟨rfl, rfl⟩)
theorem Wake_some (m r : Nat) (s : St) (l : List (Pl × Nat)) (x y z : Int) (hp : MayP x y z) {b : Nat} (hg : getM l (spot x y z) = some b) (c : Ch) (hc : c.Ok) (hn : c.ticks.length ≤ 4096) (d : Int) (hd : 1 ≤ d) : Tri Tryz.prog 187 [.pointer (some ⟨m, 0, none⟩), .agg #[.int .i64 x, .int .i64 y, .int .i64 z], .int .i64 d] [Mb m r s, MpC r l, pt b (cel c.cs 80), TkS c.tv c.ticks] (fun v Γ' => v = .tuple #[] ∧ ∃ tv', sca tv' = true ∧ Γ' = [Mb m r s, MpC r l, pt b (cel ({ c with tv := tv' } : Ch).cs 80), TkS tv' (wakeT c.ticks (idx x y z) d)]) := by
 refine Pcalls (n := 18) Tryz.func187 rfl rfl rfl fun W0 H0 => ?_
 have hb := idx_bd x y z
 refine SP.r2 ?_
 refine XL.boxA rfl rfl (fun b1 => ?_)
 refine XL.n4 ?_
 refine XL.m ?_
 refine XL.lA ?_
 refine XL.cr rfl (own_some m r s l x y z hp hg) (by repeat' constructor) rfl ?_
 refine XL.m ?_
 refine XL.x ?_
 refine XL.x ?_
 refine XL.a ?_
 refine XL.a ?_
 refine XL.n3 ?_
 refine XL.m ?_
 refine XL.m ?_
 refine XL.m ?_
 refine XL.cw rfl (c195 b c (idx x y z) d hc hn hb.1 hb.2 hd) (by repeat' constructor) rfl ?_
 rintro _ _ ⟨rfl, tv', hsv, rfl⟩
 refine XL.app2 ?_
 refine XL.nil ?_
 exact Jp.go (Pk.drop (Γ1 := [Mb m r s, MpC r l, pt b (cel ({ c with tv := tv' } : Ch).cs 80), TkS tv' (wakeT c.ticks (idx x y z) d)]) (by repeat' constructor)) (Jp.end0 (.inl rfl) rfl ⟨rfl, tv', hsv, rfl⟩)
theorem Wake_none (m r : Nat) (s : St) (l : List (Pl × Nat)) (x y z : Int) (hp : MayP x y z) (hg : getM l (spot x y z) = none) (d : Int) (hd : 1 ≤ d) : Tri Tryz.prog 187 [.pointer (some ⟨m, 0, none⟩), .agg #[.int .i64 x, .int .i64 y, .int .i64 z], .int .i64 d] [Mb m r s, MpC r l] (fun v Γ' => v = .tuple #[] ∧ ∃ b tv', sca tv' = true ∧ Γ' = [Mb m r s, MpC r (setM l (spot x y z) b), pt b (cel ({ landCh (y / 16) with tv := tv' } : Ch).cs 80), TkS tv' (wakeT [] (idx x y z) d)]) := by
 refine Pcalls (n := 18) Tryz.func187 rfl rfl rfl fun W0 H0 => ?_
 have hb := idx_bd x y z
 refine SP.r2 ?_
 refine XL.boxA rfl rfl (fun b1 => ?_)
 refine XL.n4 ?_
 refine XL.m ?_
 refine XL.lA ?_
 refine XL.cw rfl (own_none m r s l x y z hp hg) (by repeat' constructor) rfl ?_
 rintro _ _ ⟨b, rfl, rfl⟩
 refine XL.app3 ?_
 refine XL.weaken (star_nilS (E := 103) (k := 2)) ?_
 refine XL.m ?_
 refine XL.x ?_
 refine XL.x ?_
 refine XL.a ?_
 refine XL.a ?_
 refine XL.n3 ?_
 refine XL.m ?_
 refine XL.m ?_
 refine XL.m ?_
 refine XL.cw rfl (c195 b (landCh (y / 16)) (idx x y z) d (chA_ok _ _ _) (Nat.zero_le _) hb.1 hb.2 hd) (by repeat' constructor) rfl ?_
 rintro _ _ ⟨rfl, tv', hsv, rfl⟩
 refine XL.app2 ?_
 refine XL.nil ?_
 exact Jp.go (Pk.drop (Γ1 := [Mb m r s, MpC r (setM l (spot x y z) b), pt b (cel ({ landCh (y / 16) with tv := tv' } : Ch).cs 80), TkS tv' (wakeT [] (idx x y z) d)]) (by repeat' constructor)) (Jp.end0 (.inl rfl) rfl ⟨rfl, b, tv', hsv, rfl⟩)
theorem Drop_some (m r : Nat) (s : St) (l : List (Pl × Nat)) (x y z : Int) (hp : MayP x y z) {b : Nat} (hg : getM l (spot x y z) = some b) (c : Ch) (hc : c.Ok) (hn : c.ticks.length ≤ 4096) : Tri Tryz.prog 181 [.pointer (some ⟨m, 0, none⟩), .agg #[.int .i64 x, .int .i64 y, .int .i64 z]] [Mb m r s, MpC r l, pt b (cel c.cs 80), TkS c.tv c.ticks] (fun v Γ' => v = .tuple #[] ∧ ∃ tv', sca tv' = true ∧ Γ' = [Mb m r s, MpC r l, pt b (cel ({ c with tv := tv' } : Ch).cs 80), TkS tv' (dropT c.ticks (idx x y z))]) := by
 refine Pcalls (n := 15) Tryz.func181 rfl rfl rfl fun W0 H0 => ?_
 have hb := idx_bd x y z
 refine SP.r2 ?_
 refine XL.boxA rfl rfl (fun b1 => ?_)
 refine XL.n4 ?_
 refine XL.m ?_
 refine XL.lA ?_
 refine XL.cr rfl (at_some m r s l x y z hp hg) (by repeat' constructor) rfl ?_
 refine XL.m ?_
 refine XL.x ?_
 refine XL.x ?_
 refine XL.a ?_
 refine XL.a ?_
 refine XL.n3 ?_
 refine XL.m ?_
 refine XL.m ?_
 refine XL.cw rfl (c190 b c (idx x y z) hc hn hb.1 hb.2) (by repeat' constructor) rfl ?_
 rintro _ _ ⟨rfl, tv', hsv, rfl⟩
 refine XL.app2 ?_
 refine XL.nil ?_
 exact Jp.go (Pk.drop (Γ1 := [Mb m r s, MpC r l, pt b (cel ({ c with tv := tv' } : Ch).cs 80), TkS tv' (dropT c.ticks (idx x y z))]) (by repeat' constructor)) (Jp.end0 (.inl rfl) rfl ⟨rfl, tv', hsv, rfl⟩)
theorem Drop_none (m r : Nat) (s : St) (l : List (Pl × Nat)) (x y z : Int) (hp : MayP x y z) (hg : getM l (spot x y z) = none) : Tri Tryz.prog 181 [.pointer (some ⟨m, 0, none⟩), .agg #[.int .i64 x, .int .i64 y, .int .i64 z]] [Mb m r s, MpC r l] (fun v Γ' => v = .tuple #[] ∧ Γ' = [Mb m r s, MpC r l]) := by
 refine Pcalls (n := 15) Tryz.func181 rfl rfl rfl fun W0 H0 => ?_
 have hb := idx_bd x y z
 refine SP.r2 ?_
 refine XL.boxA rfl rfl (fun b1 => ?_)
 refine XL.n4 ?_
 refine XL.m ?_
 refine XL.lA ?_
 refine XL.cr rfl (at_none m r s l x y z hp hg) (by repeat' constructor) rfl ?_
 refine XL.m ?_
 refine XL.x ?_
 refine XL.x ?_
 refine XL.a ?_
 refine XL.a ?_
 refine XL.n3 ?_
 refine XL.m ?_
 refine XL.m ?_
 refine XL.cp rfl (c190_0 (idx x y z)) rfl ?_
 refine XL.nil ?_
 exact Jp.go (Pk.drop (Γ1 := [Mb m r s, MpC r l]) (by repeat' constructor)) (Jp.end0 (.inl rfl) rfl ⟨rfl, rfl⟩)
theorem Ready_some (m r : Nat) (s : St) (l : List (Pl × Nat)) (p : Pl) (now : Int) {b : Nat} (hg : getM l p = some b) (c : Ch) (hc : c.Ok) (hn : c.ticks.length ≤ 4096) : Tri Tryz.prog 186 [.pointer (some ⟨m, 0, none⟩), .agg #[.int .i64 p.x, .int .i64 p.y, .int .i64 p.z], .int .i64 now] [Mb m r s, MpC r l, pt b (cel c.cs 80), TkS c.tv c.ticks] (fun v Γ' => ∃ ts' : List Tk, ts'.Perm (rdT c.ticks now c.ticks.length) ∧ Γ' = [TkS v ts', Mb m r s, MpC r l, pt b (cel c.cs 80), TkS c.tv c.ticks]) := by
 refine Pcalls (n := 17) Tryz.func186 rfl rfl rfl fun W0 H0 => ?_
 refine SP.r2 ?_
 refine XL.boxA rfl rfl (fun b1 => ?_)
 refine XL.a ?_
 refine XL.n5 ?_
 refine SP.r2 ?_
 refine XL.m ?_
 refine XL.pnnil_eql rfl rfl ?_
 refine XL.n2 ?_
 refine SP.f ?_
 refine SP.skip ?_
 refine Jp.then_normal ?_
 refine SP.seq ?_
 refine SP.tail 7 Tryz.fol (by kernel_rfl) ?_
 refine XL.m ?_
 refine XL.nilCheck rfl rfl ?_
 refine XL.f ?_
 refine XL.l ?_
 refine XL.lA ?_
 refine XL.lookup (z := .pointer none) (k := p) (ek := Pl.v) (ev' := pv) (l := l) rfl rfl (by repeat' constructor) (zeroOf (by kernel_rfl)) rfl ?_
 rw [hg]
 refine XL.m ?_
 refine XL.nilq_tail ?_
 refine XL.cw rfl (c194 b c now hc hn) (by repeat' constructor) rfl ?_
 rintro v _ ⟨ts', hts, rfl⟩
 refine XL.app3 ?_
 refine XL.a ?_
 refine XL.n2 ?_
 refine SP.ret ?_
 exact Jp.go (Pk.drop (Γ1 := [TkS v ts', Mb m r s, MpC r l, pt b (cel c.cs 80), TkS c.tv c.ticks]) (by repeat' constructor)) (Jp.end1 (.inr rfl) rfl rfl ⟨ts', hts, rfl⟩)
theorem Ready_none (m r : Nat) (s : St) (l : List (Pl × Nat)) (p : Pl) (now : Int) (hg : getM l p = none) : Tri Tryz.prog 186 [.pointer (some ⟨m, 0, none⟩), .agg #[.int .i64 p.x, .int .i64 p.y, .int .i64 p.z], .int .i64 now] [Mb m r s, MpC r l] (fun v Γ' => v = .slice none 0 0 ∧ Γ' = [Mb m r s, MpC r l]) := by
 refine Pcalls (n := 17) Tryz.func186 rfl rfl rfl fun W0 H0 => ?_
 refine SP.r2 ?_
 refine XL.boxA rfl rfl (fun b1 => ?_)
 refine XL.a ?_
 refine XL.n5 ?_
 refine SP.r2 ?_
 refine XL.m ?_
 refine XL.pnnil_eql rfl rfl ?_
 refine XL.n2 ?_
 refine SP.f ?_
 refine SP.skip ?_
 refine Jp.then_normal ?_
 refine SP.seq ?_
 refine SP.quiet Tryz.fol (by kernel_rfl) ?_
 refine XL.m ?_
 refine XL.nilCheck rfl rfl ?_
 refine XL.f ?_
 refine XL.l ?_
 refine XL.lA ?_
 refine XL.lookup (z := .pointer none) (k := p) (ek := Pl.v) (ev' := pv) (l := l) rfl rfl (by repeat' constructor) (zeroOf (by kernel_rfl)) rfl ?_
 rw [hg]
 refine XL.m ?_
 refine XL.cp rfl (c194_0 now) rfl ?_
 refine XL.a ?_
 refine XL.nilq_end ?_
 refine Jp.then_normal ?_
 refine SP.ret ?_
 exact Jp.go (Pk.drop (Γ1 := [Mb m r s, MpC r l]) (by repeat' constructor)) (Jp.end1 (.inr rfl) rfl rfl ⟨rfl, rfl⟩)
end Go.Proofs

namespace Go.Proofs
open Go.Bk
/-! ### ticks of a chunk -/
structure TOk (ts : List Tk) : Prop where
 asc : ts.Pairwise fun s t => s.i < t.i
 rng : ∀ t ∈ ts, 0 ≤ t.i ∧ t.i < 4096 ∧ 1 ≤ t.due
theorem asc_len {ts : List Tk} {lo : Int} (asc : ts.Pairwise fun s t => s.i < t.i) (rng : ∀ t ∈ ts, lo ≤ t.i ∧ t.i < 4096) : (ts.length : Int) ≤ max 0 (4096 - lo) := by
 induction ts generalizing lo with
 | nil => simp; omega
 | cons t ts ih =>
  have h1 := rng t (by simp)
  obtain ⟨h2, h3⟩ := List.pairwise_cons.1 asc
  have := ih (lo := t.i + 1) h3 fun u hu => ⟨by have := h2 u hu; omega, (rng u (by simp [hu])).2⟩
  simp only [List.length_cons]; omega
theorem TOk.len {ts : List Tk} (h : TOk ts) : ts.length ≤ 4096 := by
 have := asc_len (lo := 0) h.asc fun t ht => ⟨(h.rng t ht).1, (h.rng t ht).2.1⟩
 omega
theorem TOk.nil : TOk [] := ⟨.nil, fun t h => by cases h⟩
theorem dueT_mem {ts : List Tk} (h : TOk ts) {t : Tk} (ht : t ∈ ts) : dueT ts t.i = t.due := by
 rcases fidx_cases (atT t.i) ts with ⟨e, hn⟩ | ⟨i, u, e, hg, hu, _⟩
 ·exact absurd rfl (hn t ht)
 ·rw [dueT_pos e hg]
  have hu' : u.i = t.i := hu
  obtain ⟨j, hj, ej⟩ := List.getElem_of_mem ht
  obtain ⟨hi, ei⟩ := List.getElem?_eq_some_iff.1 hg
  have hp := List.pairwise_iff_getElem.1 h.asc
  rcases Nat.lt_trichotomy i j with g | g | g
  ·have := hp i j hi hj g; rw [ei, ej] at this; omega
  ·subst g; rw [ei] at ej; rw [ej]
  ·have := hp j i hj hi g; rw [ei, ej] at this; omega
theorem dueT_none {ts : List Tk} {k : Int} (h : ∀ t ∈ ts, t.i ≠ k) : dueT ts k = 0 := by
 rcases fidx_cases (atT k) ts with ⟨e, _⟩ | ⟨i, u, e, hg, hu, _⟩
 ·exact dueT_neg (by omega)
 ·exact absurd hu (h u (List.mem_of_getElem? hg))
theorem dueT_ext {ts us : List Tk} {j : Int} (h : TOk ts) (h' : TOk us) (e : ∀ t : Tk, t.i = j → (t ∈ ts ↔ t ∈ us)) : dueT us j = dueT ts j := by
 by_cases g : ∃ t ∈ ts, t.i = j
 ·obtain ⟨t, ht, rfl⟩ := g
  rw [dueT_mem h ht, dueT_mem h' ((e t rfl).1 ht)]
 ·have g1 : ∀ t ∈ ts, t.i ≠ j := fun t ht he => g ⟨t, ht, he⟩
  have g2 : ∀ t ∈ us, t.i ≠ j := fun t ht he => g ⟨t, (e t he).2 ht, he⟩
  rw [dueT_none g1, dueT_none g2]
theorem insT_mem {ts : List Tk} {p : Nat} {u t : Tk} : t ∈ insT ts p u ↔ t = u ∨ t ∈ ts := by
 unfold insT
 rw [List.mem_append, List.mem_cons]
 have : t ∈ ts ↔ t ∈ ts.take p ∨ t ∈ ts.drop p := by
  conv => lhs; rw [← List.take_append_drop p ts, List.mem_append]
 rw [this]
 constructor
 ·rintro (h | h | h) <;> simp [h]
 ·rintro (h | h | h) <;> simp [h]
theorem TOk.ins {ts : List Tk} (h : TOk ts) {p : Nat} {k d : Int} (h0 : 0 ≤ k) (h1 : k < 4096) (hd : 1 ≤ d) (ha : ∀ t ∈ ts.take p, t.i < k) (hb : ∀ t ∈ ts.drop p, k < t.i) : TOk (insT ts p ⟨k, d⟩) := by
 refine ⟨?_, fun t ht => ?_⟩
 ·unfold insT
  have hs := h.asc
  rw [← List.take_append_drop p ts, List.pairwise_append] at hs
  rw [List.pairwise_append]
  refine ⟨hs.1, List.pairwise_cons.2 ⟨fun t ht => hb t ht, hs.2.1⟩, fun t ht u hu => ?_⟩
  rcases List.mem_cons.1 hu with rfl | hu
  ·exact ha t ht
  ·exact hs.2.2 t ht u hu
 ·rcases insT_mem.1 ht with rfl | ht
  ·exact ⟨h0, h1, hd⟩
  ·exact h.rng t ht
theorem TOk.set {ts : List Tk} (h : TOk ts) {i : Nat} {t : Tk} (hg : ts[i]? = some t) {d : Int} (hd : 1 ≤ d) : TOk (ts.set i ⟨t.i, d⟩) := by
 have hr := h.rng t (List.mem_of_getElem? hg)
 refine ⟨?_, fun u hu => ?_⟩
 ·have e : (ts.set i ⟨t.i, d⟩).map Tk.i = ts.map Tk.i := by
   rw [List.map_set]
   obtain ⟨hi, e⟩ := List.getElem?_eq_some_iff.1 hg
   apply List.ext_getElem?
   intro j
   rw [List.getElem?_set]
   by_cases g : i = j
   ·subst g; simp [hi, e]
   ·simp [g]
  have h1 : (ts.map Tk.i).Pairwise (· < ·) := List.pairwise_map.2 h.asc
  rw [← e] at h1
  exact List.pairwise_map.1 h1
 ·rcases List.mem_or_eq_of_mem_set hu with hu | rfl
  ·exact h.rng u hu
  ·exact ⟨hr.1, hr.2.1, hd⟩
theorem wakeT_spec {ts : List Tk} (h : TOk ts) {k d : Int} (h0 : 0 ≤ k) (h1 : k < 4096) (hd : 1 ≤ d) :
  TOk (wakeT ts k d) ∧ ∀ j, dueT (wakeT ts k d) j = if j = k then (if dueT ts k = 0 then d else if d < dueT ts k then d else dueT ts k) else dueT ts j := by
 rcases fidx_cases (atT k) ts with ⟨e, hn⟩ | ⟨i, t, e, hg, ht, hfirst⟩
 ·have hn' : ∀ t ∈ ts, t.i ≠ k := fun t ht he => hn t ht he
  have hd0 : dueT ts k = 0 := dueT_none hn'
  have hneg : ¬ 0 ≤ fidx (atT k) ts := by omega
  obtain ⟨p, hw, ha, hb⟩ : ∃ p, wakeT ts k d = insT ts p ⟨k, d⟩ ∧ (∀ t ∈ ts.take p, t.i < k) ∧ (∀ t ∈ ts.drop p, k < t.i) := by
   rcases fidx_cases (gtT k) ts with ⟨e2, hn2⟩ | ⟨p, u, e2, hg2, hu2, hf2⟩
   ·refine ⟨ts.length, wakeT_end hneg (by omega), fun t ht => ?_, fun t ht => by simp at ht⟩
    have ht' : t ∈ ts := List.mem_of_mem_take ht
    have : ¬ k < t.i := hn2 t ht'
    have := hn' t ht'
    omega
   ·refine ⟨p, wakeT_mid hneg e2, fun t ht => ?_, fun t ht => ?_⟩
    ·obtain ⟨j, hj, ej⟩ := List.getElem_of_mem ht
     rw [List.length_take] at hj
     have hj' : j < ts.length := by omega
     have e3 : ts[j]? = some t := by rw [List.getElem?_eq_getElem hj', ← ej, List.getElem_take]
     have : ¬ k < t.i := hf2 j (by omega) t e3
     have := hn' t (List.mem_of_getElem? e3)
     omega
    ·obtain ⟨j, hj, ej⟩ := List.getElem_of_mem ht
     rw [List.length_drop] at hj
     rw [List.getElem_drop] at ej
     obtain ⟨hp, ep⟩ := List.getElem?_eq_some_iff.1 hg2
     have hu3 : k < u.i := hu2
     by_cases g : j = 0
     ·subst g
      simp only [Nat.add_zero] at ej
      rw [ep] at ej; rw [← ej]; exact hu3
     ·have := List.pairwise_iff_getElem.1 h.asc p (p + j) hp (by omega) (by omega)
      rw [ep, ej] at this; omega
  have hT := h.ins h0 h1 hd ha hb
  rw [hw]
  refine ⟨hT, fun j => ?_⟩
  by_cases g : j = k
  ·subst g
   rw [if_pos rfl, if_pos hd0]
   exact dueT_mem hT (t := ⟨j, d⟩) (insT_mem.2 (.inl rfl))
  ·rw [if_neg g]
   exact dueT_ext h hT fun t hj => ⟨fun hm => insT_mem.2 (.inr hm), fun hm => by
    rcases insT_mem.1 hm with rfl | hm
    ·exact absurd hj.symm g
    ·exact hm⟩
 ·have hk : t.i = k := ht
  have hm := List.mem_of_getElem? hg
  have hdt : dueT ts k = t.due := by rw [← hk]; exact dueT_mem h hm
  have hpos := (h.rng t hm).2.2
  rw [wakeT_old e hg]
  have hT : TOk (ts.set i ⟨t.i, if d < t.due then d else t.due⟩) := h.set hg (by split <;> omega)
  refine ⟨hT, fun j => ?_⟩
  obtain ⟨hi, ei⟩ := List.getElem?_eq_some_iff.1 hg
  by_cases g : j = k
  ·rw [if_pos g, hdt, if_neg (show ¬ t.due = 0 by omega), g]
   have := dueT_mem hT (t := ⟨t.i, if d < t.due then d else t.due⟩) (List.mem_set hi _)
   rw [hk] at this; rw [hk]; exact this
  ·rw [if_neg g]
   refine dueT_ext h hT fun u hu => ⟨fun hm => ?_, fun hm => ?_⟩
   ·obtain ⟨j', hj', ej'⟩ := List.getElem_of_mem hm
    have hne : i ≠ j' := fun e' => by
     subst e'; rw [ei] at ej'; rw [← ej'] at hu; exact g (by rw [← hu, hk])
    have : (ts.set i ⟨t.i, if d < t.due then d else t.due⟩)[j']? = some u := by rw [List.getElem?_set_ne hne, List.getElem?_eq_getElem hj', ej']
    exact List.mem_of_getElem? this
   ·rcases List.mem_or_eq_of_mem_set hm with hm | rfl
    ·exact hm
    ·exact absurd (show t.i = j from hu) (fun e' => g (by rw [← e', hk]))
theorem dropT_spec {ts : List Tk} (h : TOk ts) {k : Int} : TOk (dropT ts k) ∧ ∀ j, dueT (dropT ts k) j = if j = k then 0 else dueT ts j := by
 rcases fidx_cases (atT k) ts with ⟨e, hn⟩ | ⟨i, t, e, hg, ht, hfirst⟩
 ·rw [dropT_none (by omega)]
  refine ⟨h, fun j => ?_⟩
  by_cases g : j = k
  ·subst g; rw [if_pos rfl]; exact dueT_none fun t ht he => hn t ht he
  ·rw [if_neg g]
 ·have hk : t.i = k := ht
  rw [dropT_old e]
  obtain ⟨hi, ei⟩ := List.getElem?_eq_some_iff.1 hg
  have hsp : ts = ts.take i ++ t :: ts.drop (i + 1) := by
   rw [← ei, ← List.drop_eq_getElem_cons hi, List.take_append_drop]
  have hs := h.asc
  rw [hsp, List.pairwise_append, List.pairwise_cons] at hs
  have hsub : (delT ts i).Sublist ts := by
   conv => rhs; rw [hsp]
   exact List.Sublist.append (List.Sublist.refl _) (List.sublist_cons_self _ _)
  have hT : TOk (delT ts i) := ⟨h.asc.sublist hsub, fun u hu => h.rng u (hsub.subset hu)⟩
  have hne : ∀ u ∈ delT ts i, u.i ≠ k := fun u hu he => by
   rcases List.mem_append.1 hu with hu | hu
   ·have := hs.2.2 u hu t (by simp); omega
   ·have := hs.2.1.1 u hu; omega
  refine ⟨hT, fun j => ?_⟩
  by_cases g : j = k
  ·subst g; rw [if_pos rfl]; exact dueT_none hne
  ·rw [if_neg g]
   refine dueT_ext h hT fun u hu => ⟨fun hm => ?_, fun hm => hsub.subset hm⟩
   rw [hsp] at hm
   rcases List.mem_append.1 hm with hm | hm
   ·exact List.mem_append.2 (.inl hm)
   ·rcases List.mem_cons.1 hm with rfl | hm
    ·exact absurd (hu.symm.trans hk) g
    ·exact List.mem_append.2 (.inr hm)
end Go.Proofs

namespace Go.Proofs
open Go.Bk
/-! ### a world's chunks as what its places hold -/
structure Fld where
 cell : Pl → C2
 light : Pl → C2
 due : Pl → Int
 D : Int
abbrev Ent := Pl × Nat × Ch
def keyed (L : List Ent) : List (Pl × Ch) := L.map fun e => (e.1, e.2.2)
def mapOf (L : List Ent) : List (Pl × Nat) := L.map fun e => (e.1, e.2.1)
def entA (e : Ent) : Asn := star [pt e.2.1 (cel e.2.2.cs 80), TkS e.2.2.tv e.2.2.ticks]
structure EOk (e : Ent) : Prop where
 ok : e.2.2.Ok
 tk : TOk e.2.2.ticks
 may : MayS e.1.x e.1.y e.1.z
@[reducible] def MayQ (p : Pl) : Prop := MayP p.x p.y p.z
def spotP (p : Pl) : Pl := spot p.x p.y p.z
def idxP (p : Pl) : Nat := (idx p.x p.y p.z).toNat
def cellC (c : Option Ch) (p : Pl) : C2 := match c with
 | some c => (c.cells[idxP p]?).getD ⟨0, 0⟩
 | none => landAt p.y
def lightC (c : Option Ch) (p : Pl) : C2 := match c with
 | some c => (c.lights[idxP p]?).getD ⟨0, 0⟩
 | none => landLit p.y
def dueC (c : Option Ch) (p : Pl) : Int := match c with
 | some c => dueT c.ticks (idx p.x p.y p.z)
 | none => 0
def chD (k : Pl) (c : Ch) : Int := cntM c.cells 4096 - cntM (landCh k.y).cells 4096
def DL : List Ent → Int
 | [] => 0
 | e :: L => chD e.1 e.2.2 + DL L
structure Abs (L : List Ent) (g : Fld) : Prop where
 cell : ∀ p, MayQ p → g.cell p = cellC (getM (keyed L) (spotP p)) p
 light : ∀ p, MayQ p → g.light p = lightC (getM (keyed L) (spotP p)) p
 due : ∀ p, MayQ p → g.due p = dueC (getM (keyed L) (spotP p)) p
 D : g.D = DL L
structure LOk (L : List Ent) : Prop where
 all : ∀ e ∈ L, EOk e
 nd : (L.map (·.1)).Nodup
def FieldR (r : Nat) (g : Fld) : Asn := fun h => ∃ L, LOk L ∧ Abs L g ∧ star (MpC r (mapOf L) :: L.map entA) h
theorem DL_app (A B : List Ent) : DL (A ++ B) = DL A + DL B := by
 induction A with
 | nil => simp [DL]
 | cons e A ih => simp only [List.cons_append, DL, ih]; omega
theorem getM_mid {β : Type} (A B : List (Pl × β)) (k : Pl) (v : β) (hk : ∀ e ∈ A, e.1 ≠ k) (q : Pl) : getM (A ++ (k, v) :: B) q = if q = k then some v else getM (A ++ B) q := by
 induction A with
 | nil => simp [getM]
 | cons e A ih =>
  obtain ⟨a, u⟩ := e
  have h1 : a ≠ k := hk (a, u) (by simp)
  have := ih fun e he => hk e (by simp [he])
  simp only [List.cons_append, getM, this]
  by_cases g : q = a
  ·subst g; rw [if_pos rfl, if_pos rfl, if_neg h1]
  ·rw [if_neg g, if_neg g]
theorem getM_end {β : Type} (A : List (Pl × β)) (k : Pl) (v : β) (hk : getM A k = none) (q : Pl) : getM (A ++ [(k, v)]) q = if q = k then some v else getM A q := by
 induction A with
 | nil => simp [getM]
 | cons e A ih =>
  obtain ⟨a, u⟩ := e
  simp only [getM] at hk
  by_cases h : k = a
  ·rw [if_pos h] at hk; cases hk
  ·rw [if_neg h] at hk
   simp only [List.cons_append, getM, ih hk]
   by_cases g : q = a
   ·subst g; rw [if_pos rfl, if_pos rfl, if_neg (fun e => h e.symm)]
   ·rw [if_neg g, if_neg g]
theorem getM_split {L : List Ent} (h : LOk L) {k : Pl} {c : Ch} (hg : getM (keyed L) k = some c) : ∃ A B b, L = A ++ (k, b, c) :: B ∧ (∀ e ∈ A, e.1 ≠ k) ∧ (∀ e ∈ B, e.1 ≠ k) := by
 have hn := h.nd
 clear h
 induction L with
 | nil => simp [keyed, getM] at hg
 | cons e L ih =>
  obtain ⟨a, b, u⟩ := e
  simp only [keyed, List.map_cons, getM] at hg
  simp only [List.map_cons, List.nodup_cons] at hn
  by_cases g : k = a
  ·rw [if_pos g] at hg; cases hg; subst g
   exact ⟨[], L, b, rfl, by simp, fun e he hk => hn.1 (by rw [← hk]; exact List.mem_map.2 ⟨e, he, rfl⟩)⟩
  ·rw [if_neg g] at hg
   obtain ⟨A, B, b', e1, e2, e3⟩ := ih hg hn.2
   exact ⟨(a, b, u) :: A, B, b', by rw [e1]; rfl, fun e he => by
    rcases List.mem_cons.1 he with rfl | he
    ·exact fun q => g q.symm
    ·exact e2 e he, e3⟩
theorem keyed_none {L : List Ent} {k : Pl} (h : getM (keyed L) k = none) : getM (mapOf L) k = none ∧ ∀ e ∈ L, e.1 ≠ k := by
 induction L with
 | nil => simp [mapOf, getM]
 | cons e L ih =>
  obtain ⟨a, b, u⟩ := e
  simp only [keyed, List.map_cons, getM] at h
  by_cases g : k = a
  ·rw [if_pos g] at h; cases h
  ·rw [if_neg g] at h
   obtain ⟨h1, h2⟩ := ih h
   refine ⟨by simp only [mapOf, List.map_cons, getM]; rw [if_neg g]; exact h1, fun e he => ?_⟩
   rcases List.mem_cons.1 he with rfl | he
   ·exact fun q => g q.symm
   ·exact h2 e he
theorem mapOf_mid (A B : List Ent) (k : Pl) (b : Nat) (c : Ch) (hA : ∀ e ∈ A, e.1 ≠ k) : getM (mapOf (A ++ (k, b, c) :: B)) k = some b := by
 have := getM_mid (mapOf A) (mapOf B) k b (fun e he => by
  obtain ⟨e', he', rfl⟩ := List.mem_map.1 he; exact hA e' he') k
 simpa [mapOf] using this
theorem keyed_mid (A B : List Ent) (k : Pl) (b : Nat) (c : Ch) (hA : ∀ e ∈ A, e.1 ≠ k) (q : Pl) : getM (keyed (A ++ (k, b, c) :: B)) q = if q = k then some c else getM (keyed (A ++ B)) q := by
 have := getM_mid (keyed A) (keyed B) k c (fun e he => by
  obtain ⟨e', he', rfl⟩ := List.mem_map.1 he; exact hA e' he') q
 simpa [keyed] using this
theorem keyed_end (A : List Ent) (k : Pl) (b : Nat) (c : Ch) (hA : getM (keyed A) k = none) (q : Pl) : getM (keyed (A ++ [(k, b, c)])) q = if q = k then some c else getM (keyed A) q := by
 have := getM_end (keyed A) k c hA q
 simpa [keyed] using this
theorem LOk.upd {A B : List Ent} {k : Pl} {b : Nat} {c c' : Ch} (h : LOk (A ++ (k, b, c) :: B)) (h1 : c'.Ok) (h2 : TOk c'.ticks) : LOk (A ++ (k, b, c') :: B) := by
 have h3 := h.all (k, b, c) (by simp)
 refine ⟨fun e he => ?_, by have := h.nd; simpa using this⟩
 rcases List.mem_append.1 he with he | he
 ·exact h.all e (by simp [he])
 ·rcases List.mem_cons.1 he with rfl | he
  ·exact ⟨h1, h2, h3.may⟩
  ·exact h.all e (by simp [he])
theorem LOk.add {A : List Ent} {k : Pl} {b : Nat} {c : Ch} (h : LOk A) (hn : ∀ e ∈ A, e.1 ≠ k) (hm : MayS k.x k.y k.z) (h1 : c.Ok) (h2 : TOk c.ticks) : LOk (A ++ [(k, b, c)]) := by
 refine ⟨fun e he => ?_, ?_⟩
 ·rcases List.mem_append.1 he with he | he
  ·exact h.all e he
  ·simp at he; subst he; exact ⟨h1, h2, hm⟩
 ·rw [List.map_append, List.nodup_append]
  refine ⟨h.nd, by simp, fun a ha b' hb => ?_⟩
  simp at hb; subst hb
  obtain ⟨e, he, rfl⟩ := List.mem_map.1 ha
  exact hn e he
theorem focus {r : Nat} {A B : List Ent} {k : Pl} {b : Nat} {c : Ch} : ∀ h, star (MpC r (mapOf (A ++ (k, b, c) :: B)) :: (A ++ (k, b, c) :: B).map entA) h → star ([MpC r (mapOf (A ++ (k, b, c) :: B)), pt b (cel c.cs 80), TkS c.tv c.ticks] ++ [star ((A ++ B).map entA)]) h := fun h s => by
 have s1 := star_tail (Γ' := entA (k, b, c) :: (A ++ B).map entA) (star_perm (by rw [List.map_append, List.map_cons, List.map_append]; exact List.perm_middle)) s
 refine star_bundle h (star_tail (fun k' s' => ?_) s1)
 exact (star_flat (Γ := [pt b (cel c.cs 80), TkS c.tv c.ticks]) k').1 s'
theorem unfocus {A B : List Ent} {k : Pl} {b : Nat} {c : Ch} {M : Asn} : ∀ h, star ([M, pt b (cel c.cs 80), TkS c.tv c.ticks] ++ [star ((A ++ B).map entA)]) h → star (M :: (A ++ (k, b, c) :: B).map entA) h := fun h s => by
 have s1 := star_unbundle h s
 refine star_tail (fun k' s' => ?_) s1
 have s2 := (star_flat (Γ := [pt b (cel c.cs 80), TkS c.tv c.ticks]) k').2 s'
 exact star_perm (Γ := entA (k, b, c) :: (A ++ B).map entA) (by rw [List.map_append, List.map_append, List.map_cons]; exact List.perm_middle.symm) k' s2
end Go.Proofs

namespace Go.Proofs
open Go.Bk
theorem FieldR.close {m r : Nat} {s : St} {g : Fld} {L : List Ent} (hL : LOk L) (hA : Abs L g) : ∀ h, star ([Mb m r s, MpC r (mapOf L)] ++ [star (L.map entA)]) h → star [Mb m r s, FieldR r g] h := fun h st => by
 have s1 := star_unbundle h st
 refine star_tail (fun k s' => ?_) s1
 exact ⟨k, fun _ => none, by funext b; unfold un; cases k b <;> rfl, fun b => .inr rfl, ⟨L, hL, hA, s'⟩, trivial⟩
section
variable {P : Program} {f : FuncId} {vs : List Value} {m r : Nat} {s : St} {g : Fld} {post : Value → List Asn → Prop}
theorem Tri.field (H : ∀ L, LOk L → Abs L g → Tri P f vs ([Mb m r s, MpC r (mapOf L)] ++ [star (L.map entA)]) post) : Tri P f vs [Mb m r s, FieldR r g] post := fun w h st a => by
 obtain ⟨h1, h2, e, d, hm, h3, h4, e2, d2, ⟨L, hL, hA, st'⟩, _⟩ := id st
 refine H L hL hA w h (star_bundle h ⟨h1, h2, e, d, hm, ?_⟩) a
 rw [e2]; exact star_more _ d2 st'
theorem Tri.someE {A B : List Ent} {k : Pl} {b : Nat} {c : Ch} (t : Tri P f vs ([Mb m r s, MpC r (mapOf (A ++ (k, b, c) :: B)), pt b (cel c.cs 80), TkS c.tv c.ticks] ++ [star ((A ++ B).map entA)]) post) :
  Tri P f vs ([Mb m r s, MpC r (mapOf (A ++ (k, b, c) :: B))] ++ [star ((A ++ (k, b, c) :: B).map entA)]) post :=
 Tri.pre (fun h st => star_tail (fun k' s' => focus k' s') (star_unbundle h st)) t
theorem FieldR.closeE {A B : List Ent} {k : Pl} {b : Nat} {c : Ch} (hL : LOk (A ++ (k, b, c) :: B)) (hA : Abs (A ++ (k, b, c) :: B) g) :
  ∀ h, star ([Mb m r s, MpC r (mapOf (A ++ (k, b, c) :: B)), pt b (cel c.cs 80), TkS c.tv c.ticks] ++ [star ((A ++ B).map entA)]) h → star [Mb m r s, FieldR r g] h := fun h st =>
 FieldR.close hL hA h (star_bundle h (star_tail (fun k' s' => unfocus k' s') st))
end
theorem idxP_lt (p : Pl) : idxP p < 4096 := by have := idx_bd p.x p.y p.z; unfold idxP; omega
@[reducible] def mp (m : Nat) : Value := .pointer (some ⟨m, 0, none⟩)
@[reducible] def plv (p : Pl) : Value := .agg #[.int .i64 p.x, .int .i64 p.y, .int .i64 p.z]
theorem F_Cell (m r : Nat) (s : St) (g : Fld) (p : Pl) (hp : MayQ p) : Tri Tryz.prog 180 [mp m, plv p] [Mb m r s, FieldR r g] (fun v Γ' => v = (g.cell p).v ∧ Γ' = [Mb m r s, FieldR r g]) := by
 refine Tri.field fun L hL hA => ?_
 have hv := hA.cell p hp
 cases hc : getM (keyed L) (spotP p) with
 | none =>
  rw [hc] at hv
  refine Tri.conseq (Tri.fr (Cell_none m r s (mapOf L) p.x p.y p.z hp (keyed_none hc).1) [star (L.map entA)]) ?_
  rintro v _ ⟨Γ', ⟨rfl, rfl⟩, rfl⟩
  exact ⟨_, ⟨by rw [hv]; rfl, rfl⟩, FieldR.close hL hA⟩
 | some c =>
  rw [hc] at hv
  obtain ⟨A, B, b, rfl, h1, h2⟩ := getM_split hL hc
  have he := hL.all (spotP p, b, c) (by simp)
  obtain ⟨ce, hce⟩ := get_of he.ok.nc (idxP_lt p)
  refine Tri.someE (Tri.conseq (Tri.fr (Cell_some m r s _ p.x p.y p.z hp (mapOf_mid A B (spotP p) b c h1) c he.ok ce hce) [TkS c.tv c.ticks, star ((A ++ B).map entA)]) ?_)
  rintro v _ ⟨Γ', ⟨rfl, rfl⟩, rfl⟩
  refine ⟨_, ⟨?_, rfl⟩, FieldR.closeE hL hA⟩
  rw [hv]; show ce.v = ((c.cells[idxP p]?).getD ⟨0, 0⟩).v; rw [hce]; rfl
theorem F_Light (m r : Nat) (s : St) (g : Fld) (p : Pl) (hp : MayQ p) : Tri Tryz.prog 183 [mp m, plv p] [Mb m r s, FieldR r g] (fun v Γ' => v = (g.light p).v ∧ Γ' = [Mb m r s, FieldR r g]) := by
 refine Tri.field fun L hL hA => ?_
 have hv := hA.light p hp
 cases hc : getM (keyed L) (spotP p) with
 | none =>
  rw [hc] at hv
  refine Tri.conseq (Tri.fr (Light_none m r s (mapOf L) p.x p.y p.z hp (keyed_none hc).1) [star (L.map entA)]) ?_
  rintro v _ ⟨Γ', ⟨rfl, rfl⟩, rfl⟩
  exact ⟨_, ⟨by rw [hv]; rfl, rfl⟩, FieldR.close hL hA⟩
 | some c =>
  rw [hc] at hv
  obtain ⟨A, B, b, rfl, h1, h2⟩ := getM_split hL hc
  have he := hL.all (spotP p, b, c) (by simp)
  obtain ⟨ce, hce⟩ := get_of he.ok.nl (idxP_lt p)
  refine Tri.someE (Tri.conseq (Tri.fr (Light_some m r s _ p.x p.y p.z hp (mapOf_mid A B (spotP p) b c h1) c he.ok ce hce) [TkS c.tv c.ticks, star ((A ++ B).map entA)]) ?_)
  rintro v _ ⟨Γ', ⟨rfl, rfl⟩, rfl⟩
  refine ⟨_, ⟨?_, rfl⟩, FieldR.closeE hL hA⟩
  rw [hv]; show ce.v = ((c.lights[idxP p]?).getD ⟨0, 0⟩).v; rw [hce]; rfl
theorem F_Due (m r : Nat) (s : St) (g : Fld) (p : Pl) (hp : MayQ p) : Tri Tryz.prog 182 [mp m, plv p] [Mb m r s, FieldR r g] (fun v Γ' => v = .int .i64 (g.due p) ∧ Γ' = [Mb m r s, FieldR r g]) := by
 refine Tri.field fun L hL hA => ?_
 have hv := hA.due p hp
 cases hc : getM (keyed L) (spotP p) with
 | none =>
  rw [hc] at hv
  refine Tri.conseq (Tri.fr (Due_none m r s (mapOf L) p.x p.y p.z hp (keyed_none hc).1) [star (L.map entA)]) ?_
  rintro v _ ⟨Γ', ⟨rfl, rfl⟩, rfl⟩
  exact ⟨_, ⟨by rw [hv]; rfl, rfl⟩, FieldR.close hL hA⟩
 | some c =>
  rw [hc] at hv
  obtain ⟨A, B, b, rfl, h1, h2⟩ := getM_split hL hc
  have he := hL.all (spotP p, b, c) (by simp)
  refine Tri.someE (Tri.conseq (Tri.fr (Due_some m r s _ p.x p.y p.z hp (mapOf_mid A B (spotP p) b c h1) c he.ok he.tk.len) [star ((A ++ B).map entA)]) ?_)
  rintro v _ ⟨Γ', ⟨rfl, rfl⟩, rfl⟩
  refine ⟨_, ⟨?_, rfl⟩, FieldR.closeE hL hA⟩
  rw [hv]; rfl
end Go.Proofs

namespace Go.Proofs
open Go.Bk
def mv (c : C2) : Int := if KMov c.a then 1 else 0
def Fld.put (g : Fld) (p : Pl) (x : C2) : Fld := { g with cell := fun q => if q = p then x else g.cell q, D := g.D + mv x - mv (g.cell p) }
def Fld.lit (g : Fld) (p : Pl) (x : C2) : Fld := { g with light := fun q => if q = p then x else g.light q }
def Fld.wake (g : Fld) (p : Pl) (d : Int) : Fld := { g with due := fun q => if q = p then (if g.due p = 0 then d else if d < g.due p then d else g.due p) else g.due q }
def Fld.drop (g : Fld) (p : Pl) : Fld := { g with due := fun q => if q = p then 0 else g.due q }
theorem place_eq {p q : Pl} (h1 : spotP q = spotP p) (h2 : idxP q = idxP p) : q = p := by
 obtain ⟨x, y, z⟩ := p
 obtain ⟨u, v, w⟩ := q
 unfold spotP spot at h1
 unfold idxP at h2
 have a1 := idx_bd x y z
 have a2 := idx_bd u v w
 have h3 : idx u v w = idx x y z := by simp only at h2; omega
 unfold idx at h3
 simp only [Pl.mk.injEq] at h1 ⊢
 omega
theorem cntM_set {l : List C2} {i n : Nat} {x y : C2} (h : l[i]? = some x) (hi : i < n) : cntM (l.set i y) n = cntM l n + mv y - mv x := by
 obtain ⟨hl, e⟩ := List.getElem?_eq_some_iff.1 h
 unfold cntM mv
 rw [← List.countP_eq_length_filter, ← List.countP_eq_length_filter, List.take_set]
 have hl' : i < (l.take n).length := by simp; omega
 rw [List.countP_set hl']
 have e2 : (l.take n)[i] = x := by simp [e]
 rw [e2]
 have hpos : KMov x.a → 0 < (l.take n).countP fun c => decide (KMov c.a) := fun hk => List.countP_pos_iff.2 ⟨x, by rw [← e2]; exact List.getElem_mem hl', by simpa using hk⟩
 by_cases g1 : KMov x.a
 ·have := hpos g1
  by_cases g2 : KMov y.a <;> simp [g1, g2] <;> omega
 ·by_cases g2 : KMov y.a <;> simp [g1, g2]
theorem Abs.upd {A B : List Ent} {k : Pl} {b : Nat} {c c' : Ch} {g g' : Fld} (hA : Abs (A ++ (k, b, c) :: B) g) (h1 : ∀ e ∈ A, e.1 ≠ k) (hD : g'.D = g.D + chD k c' - chD k c)
  (hin : ∀ p, MayQ p → spotP p = k → g'.cell p = cellC (some c') p ∧ g'.light p = lightC (some c') p ∧ g'.due p = dueC (some c') p)
  (hout : ∀ p, MayQ p → spotP p ≠ k → g'.cell p = g.cell p ∧ g'.light p = g.light p ∧ g'.due p = g.due p) : Abs (A ++ (k, b, c') :: B) g' := by
 have key : ∀ p, MayQ p → g'.cell p = cellC (getM (keyed (A ++ (k, b, c') :: B)) (spotP p)) p ∧ g'.light p = lightC (getM (keyed (A ++ (k, b, c') :: B)) (spotP p)) p ∧ g'.due p = dueC (getM (keyed (A ++ (k, b, c') :: B)) (spotP p)) p := fun p hp => by
  rw [keyed_mid A B k b c' h1]
  by_cases e : spotP p = k
  ·rw [if_pos e]; exact hin p hp e
  ·rw [if_neg e]
   obtain ⟨o1, o2, o3⟩ := hout p hp e
   have a1 := hA.cell p hp; have a2 := hA.light p hp; have a3 := hA.due p hp
   rw [keyed_mid A B k b c h1, if_neg e] at a1 a2 a3
   exact ⟨o1.trans a1, o2.trans a2, o3.trans a3⟩
 refine ⟨fun p hp => (key p hp).1, fun p hp => (key p hp).2.1, fun p hp => (key p hp).2.2, ?_⟩
 have := hA.D
 rw [DL_app] at this ⊢
 simp only [DL] at this ⊢
 omega
theorem Abs.add {A : List Ent} {k : Pl} {b : Nat} {c' : Ch} {g g' : Fld} (hA : Abs A g) (h1 : getM (keyed A) k = none) (hD : g'.D = g.D + chD k c')
  (hin : ∀ p, MayQ p → spotP p = k → g'.cell p = cellC (some c') p ∧ g'.light p = lightC (some c') p ∧ g'.due p = dueC (some c') p)
  (hout : ∀ p, MayQ p → spotP p ≠ k → g'.cell p = g.cell p ∧ g'.light p = g.light p ∧ g'.due p = g.due p) : Abs (A ++ [(k, b, c')]) g' := by
 have key : ∀ p, MayQ p → g'.cell p = cellC (getM (keyed (A ++ [(k, b, c')])) (spotP p)) p ∧ g'.light p = lightC (getM (keyed (A ++ [(k, b, c')])) (spotP p)) p ∧ g'.due p = dueC (getM (keyed (A ++ [(k, b, c')])) (spotP p)) p := fun p hp => by
  rw [keyed_end A k b c' h1]
  by_cases e : spotP p = k
  ·rw [if_pos e]; exact hin p hp e
  ·rw [if_neg e]
   obtain ⟨o1, o2, o3⟩ := hout p hp e
   exact ⟨o1.trans (hA.cell p hp), o2.trans (hA.light p hp), o3.trans (hA.due p hp)⟩
 refine ⟨fun p hp => (key p hp).1, fun p hp => (key p hp).2.1, fun p hp => (key p hp).2.2, ?_⟩
 have := hA.D
 rw [DL_app]
 simp only [DL] at this ⊢
 omega
theorem land_cell (p : Pl) (hp : MayQ p) : cellC (some (landCh (spotP p).y)) p = landAt p.y ∧ lightC (some (landCh (spotP p).y)) p = landLit p.y ∧ dueC (some (landCh (spotP p).y)) p = 0 := by
 have hb := idx_bd p.x p.y p.z
 have hlt := idxP_lt p
 have hi : ((idxP p : Nat) : Int) = idx p.x p.y p.z := by unfold idxP; omega
 have hy : (spotP p).y * 16 + ((idxP p : Nat) : Int) / 256 = p.y := by
  rw [hi]; unfold spotP spot idx; simp only; omega
 refine ⟨?_, ?_, rfl⟩
 ·show ((mixC landAt (spotP p).y 4096)[idxP p]?).getD ⟨0, 0⟩ = _
  unfold mixC; simp [hlt, hy]
 ·show ((mixC landLit (spotP p).y 4096)[idxP p]?).getD ⟨0, 0⟩ = _
  unfold mixC; simp [hlt, hy]
end Go.Proofs

namespace Go.Proofs
open Go.Bk
@[reducible] def c2v (x : C2) : Value := .agg #[.int .u8 x.a, .int .u8 x.b]
def C2.rng (x : C2) : Prop := 0 ≤ x.a ∧ x.a ≤ 255 ∧ 0 ≤ x.b ∧ x.b ≤ 255
theorem put_in {c : Ch} (hc : c.Ok) {g : Fld} {p q : Pl} {x : C2} (hs : spotP q = spotP p) (hg : g.cell q = cellC (some c) q) (hl : g.light q = lightC (some c) q) (hd : g.due q = dueC (some c) q) :
  (g.put p x).cell q = cellC (some { c with cells := c.cells.set (idxP p) x }) q ∧ (g.put p x).light q = lightC (some { c with cells := c.cells.set (idxP p) x }) q ∧ (g.put p x).due q = dueC (some { c with cells := c.cells.set (idxP p) x }) q := by
 refine ⟨?_, hl, hd⟩
 show (if q = p then x else g.cell q) = ((c.cells.set (idxP p) x)[idxP q]?).getD ⟨0, 0⟩
 have hlt := idxP_lt p
 by_cases e : q = p
 ·subst e; rw [if_pos rfl, List.getElem?_set_self (by rw [hc.nc]; exact hlt)]; rfl
 ·rw [if_neg e, List.getElem?_set_ne (fun h => e (place_eq hs h.symm)), hg]; rfl
theorem lit_in {c : Ch} (hc : c.Ok) {g : Fld} {p q : Pl} {x : C2} (hs : spotP q = spotP p) (hg : g.cell q = cellC (some c) q) (hl : g.light q = lightC (some c) q) (hd : g.due q = dueC (some c) q) :
  (g.lit p x).cell q = cellC (some { c with lights := c.lights.set (idxP p) x }) q ∧ (g.lit p x).light q = lightC (some { c with lights := c.lights.set (idxP p) x }) q ∧ (g.lit p x).due q = dueC (some { c with lights := c.lights.set (idxP p) x }) q := by
 refine ⟨hg, ?_, hd⟩
 show (if q = p then x else g.light q) = ((c.lights.set (idxP p) x)[idxP q]?).getD ⟨0, 0⟩
 have hlt := idxP_lt p
 by_cases e : q = p
 ·subst e; rw [if_pos rfl, List.getElem?_set_self (by rw [hc.nl]; exact hlt)]; rfl
 ·rw [if_neg e, List.getElem?_set_ne (fun h => e (place_eq hs h.symm)), hl]; rfl
theorem put_D {c : Ch} (hc : c.Ok) {g : Fld} {p : Pl} {x : C2} (hg : g.cell p = cellC (some c) p) (k : Pl) : (g.put p x).D = g.D + chD k { c with cells := c.cells.set (idxP p) x } - chD k c := by
 obtain ⟨y, hy⟩ := get_of hc.nc (idxP_lt p)
 have e : g.cell p = y := by rw [hg]; show (c.cells[idxP p]?).getD ⟨0, 0⟩ = y; rw [hy]; rfl
 show g.D + mv x - mv (g.cell p) = _
 unfold chD
 rw [cntM_set hy (idxP_lt p), e]; omega
theorem at_in {L : List Ent} {g : Fld} (hA : Abs L g) {p q : Pl} {c : Ch} (hc : getM (keyed L) (spotP p) = some c) (hq : MayQ q) (hs : spotP q = spotP p) : g.cell q = cellC (some c) q ∧ g.light q = lightC (some c) q ∧ g.due q = dueC (some c) q := by
 have a1 := hA.cell q hq; have a2 := hA.light q hq; have a3 := hA.due q hq
 rw [hs, hc] at a1 a2 a3
 exact ⟨a1, a2, a3⟩
theorem at_out {L : List Ent} {g : Fld} (hA : Abs L g) {p q : Pl} (hc : getM (keyed L) (spotP p) = none) (hq : MayQ q) (hs : spotP q = spotP p) :
  g.cell q = cellC (some (landCh (spotP p).y)) q ∧ g.light q = lightC (some (landCh (spotP p).y)) q ∧ g.due q = dueC (some (landCh (spotP p).y)) q := by
 have a1 := hA.cell q hq; have a2 := hA.light q hq; have a3 := hA.due q hq
 rw [hs, hc] at a1 a2 a3
 obtain ⟨l1, l2, l3⟩ := land_cell q hq
 rw [hs] at l1 l2 l3
 exact ⟨a1.trans l1.symm, a2.trans l2.symm, a3.trans l3.symm⟩
theorem landD (k : Pl) : chD k (landCh k.y) = 0 := by unfold chD; omega
theorem mapOf_set {L : List Ent} {k : Pl} {b : Nat} {c : Ch} (h : getM (mapOf L) k = none) : setM (mapOf L) k b = mapOf (L ++ [(k, b, c)]) := by
 rw [setM_none h]; simp [mapOf]
theorem closeN {m r : Nat} {s : St} {L : List Ent} {g : Fld} {k : Pl} {b : Nat} {c : Ch} (hm : getM (mapOf L) k = none) (hL : LOk (L ++ [(k, b, c)])) (hA : Abs (L ++ [(k, b, c)]) g) :
  ∀ h, star ([Mb m r s, MpC r (setM (mapOf L) k b), pt b (cel c.cs 80), TkS c.tv c.ticks] ++ [star (L.map entA)]) h → star [Mb m r s, FieldR r g] h := fun h st => by
 rw [mapOf_set (c := c) hm] at st
 have hh : star ([Mb m r s, MpC r (mapOf (L ++ (k, b, c) :: [])), pt b (cel c.cs 80), TkS c.tv c.ticks] ++ [star ((L ++ []).map entA)]) h := by rw [List.append_nil]; exact st
 exact FieldR.closeE (A := L) (B := []) hL hA h hh
theorem F_Put (m r : Nat) (s : St) (g : Fld) (p : Pl) (hp : MayQ p) (x : C2) (hx : C2.rng x) : Tri Tryz.prog 185 [mp m, plv p, c2v x] [Mb m r s, FieldR r g] (fun v Γ' => v = .tuple #[] ∧ Γ' = [Mb m r s, FieldR r (g.put p x)]) := by
 refine Tri.field fun L hL hA => ?_
 cases hc : getM (keyed L) (spotP p) with
 | none =>
  have hn := keyed_none hc
  refine Tri.conseq (Tri.fr (Put_none m r s (mapOf L) p.x p.y p.z hp hn.1 x) [star (L.map entA)]) ?_
  rintro v _ ⟨Γ', ⟨rfl, b, rfl⟩, rfl⟩
  have hk : (landCh (p.y / 16)).Ok := chA_ok _ _ _
  have hlt := idxP_lt p
  refine ⟨_, ⟨rfl, rfl⟩, fun h st => closeN (b := b) (c := { landCh (p.y / 16) with cells := (landCh (p.y / 16)).cells.set (idxP p) x }) hn.1 (hL.add hn.2 (spot_may hp) (Ch.setCell hk _ x hx) TOk.nil) (hA.add hc ?_ ?_ ?_) h (star_perm ?_ h (star_nilS (E := 103) (k := 2) h st))⟩
  ·have := put_D hk (g := g) (p := p) (x := x) (at_out hA hc hp rfl).1 (spotP p)
   have l0 := landD (spotP p)
   have e : chD (spotP p) (landCh (p.y / 16)) = 0 := l0
   rw [e] at this
   exact this.trans (Int.sub_zero _)
  ·intro q hq hs
   obtain ⟨a1, a2, a3⟩ := at_out hA hc hq hs
   exact put_in hk hs a1 a2 a3
  ·intro q hq hs
   exact ⟨if_neg fun e => hs (by rw [e]), rfl, rfl⟩
  ·exact (List.perm_middle (l₁ := [Mb m r s, MpC r (setM (mapOf L) (spotP p) b), pt b (cel ({ landCh (p.y / 16) with cells := (landCh (p.y / 16)).cells.set (idxP p) x } : Ch).cs 80)])).symm
 | some c =>
  obtain ⟨A, B, b, rfl, h1, h2⟩ := getM_split hL hc
  have he := hL.all (spotP p, b, c) (by simp)
  refine Tri.someE (Tri.conseq (Tri.fr (Put_some m r s _ p.x p.y p.z hp (mapOf_mid A B (spotP p) b c h1) c he.ok x) [TkS c.tv c.ticks, star ((A ++ B).map entA)]) ?_)
  rintro v _ ⟨Γ', ⟨rfl, rfl⟩, rfl⟩
  have hm : mapOf (A ++ (spotP p, b, c) :: B) = mapOf (A ++ (spotP p, b, { c with cells := c.cells.set (idxP p) x }) :: B) := by simp [mapOf]
  refine ⟨_, ⟨rfl, rfl⟩, fun h st => FieldR.closeE (A := A) (B := B) (k := spotP p) (b := b) (c := { c with cells := c.cells.set (idxP p) x }) (hL.upd (Ch.setCell he.ok _ x hx) he.tk) (hA.upd h1 ?_ ?_ ?_) h (by rw [← hm]; exact st)⟩
  ·exact put_D he.ok (at_in hA hc hp rfl).1 (spotP p)
  ·intro q hq hs
   obtain ⟨a1, a2, a3⟩ := at_in hA hc hq hs
   exact put_in he.ok hs a1 a2 a3
  ·intro q hq hs
   exact ⟨if_neg fun e => hs (by rw [e]), rfl, rfl⟩
end Go.Proofs

namespace Go.Proofs
open Go.Bk
theorem F_Lit (m r : Nat) (s : St) (g : Fld) (p : Pl) (hp : MayQ p) (x : C2) (hx : C2.rng x) : Tri Tryz.prog 184 [mp m, plv p, c2v x] [Mb m r s, FieldR r g] (fun v Γ' => v = .tuple #[] ∧ Γ' = [Mb m r s, FieldR r (g.lit p x)]) := by
 refine Tri.field fun L hL hA => ?_
 cases hc : getM (keyed L) (spotP p) with
 | none =>
  have hn := keyed_none hc
  refine Tri.conseq (Tri.fr (Lit_none m r s (mapOf L) p.x p.y p.z hp hn.1 x) [star (L.map entA)]) ?_
  rintro v _ ⟨Γ', ⟨rfl, b, rfl⟩, rfl⟩
  have hk : (landCh (p.y / 16)).Ok := chA_ok _ _ _
  have hlt := idxP_lt p
  refine ⟨_, ⟨rfl, rfl⟩, fun h st => closeN (b := b) (c := { landCh (p.y / 16) with lights := (landCh (p.y / 16)).lights.set (idxP p) x }) hn.1 (hL.add hn.2 (spot_may hp) (Ch.setLight hk _ x hx) TOk.nil) (hA.add hc ?_ ?_ ?_) h (star_perm ?_ h (star_nilS (E := 103) (k := 2) h st))⟩
  ·have l0 : chD (spotP p) (landCh (p.y / 16)) = 0 := landD (spotP p)
   exact (show g.D = g.D + chD (spotP p) (landCh (p.y / 16)) by omega)
  ·intro q hq hs
   obtain ⟨a1, a2, a3⟩ := at_out hA hc hq hs
   exact lit_in hk hs a1 a2 a3
  ·intro q hq hs
   exact ⟨rfl, if_neg fun e => hs (by rw [e]), rfl⟩
  ·exact (List.perm_middle (l₁ := [Mb m r s, MpC r (setM (mapOf L) (spotP p) b), pt b (cel ({ landCh (p.y / 16) with lights := (landCh (p.y / 16)).lights.set (idxP p) x } : Ch).cs 80)])).symm
 | some c =>
  obtain ⟨A, B, b, rfl, h1, h2⟩ := getM_split hL hc
  have he := hL.all (spotP p, b, c) (by simp)
  refine Tri.someE (Tri.conseq (Tri.fr (Lit_some m r s _ p.x p.y p.z hp (mapOf_mid A B (spotP p) b c h1) c he.ok x) [TkS c.tv c.ticks, star ((A ++ B).map entA)]) ?_)
  rintro v _ ⟨Γ', ⟨rfl, rfl⟩, rfl⟩
  have hm : mapOf (A ++ (spotP p, b, c) :: B) = mapOf (A ++ (spotP p, b, { c with lights := c.lights.set (idxP p) x }) :: B) := by simp [mapOf]
  refine ⟨_, ⟨rfl, rfl⟩, fun h st => FieldR.closeE (A := A) (B := B) (k := spotP p) (b := b) (c := { c with lights := c.lights.set (idxP p) x }) (hL.upd (Ch.setLight he.ok _ x hx) he.tk) (hA.upd h1 ?_ ?_ ?_) h (by rw [← hm]; exact st)⟩
  ·exact (show g.D = g.D + chD (spotP p) c - chD (spotP p) c by omega)
  ·intro q hq hs
   obtain ⟨a1, a2, a3⟩ := at_in hA hc hq hs
   exact lit_in he.ok hs a1 a2 a3
  ·intro q hq hs
   exact ⟨rfl, if_neg fun e => hs (by rw [e]), rfl⟩
theorem idx_inj {p q : Pl} (hs : spotP q = spotP p) (h : idx q.x q.y q.z = idx p.x p.y p.z) : q = p := place_eq hs (by unfold idxP; rw [h])
theorem wake_in {c : Ch} (ht : TOk c.ticks) {g : Fld} {p q : Pl} {d : Int} (hd : 1 ≤ d) {tv : Value} (hs : spotP q = spotP p) (hg : g.cell q = cellC (some c) q) (hl : g.light q = lightC (some c) q) (hq : g.due q = dueC (some c) q) (hp : g.due p = dueC (some c) p) :
  (g.wake p d).cell q = cellC (some ⟨c.cells, c.lights, tv, wakeT c.ticks (idx p.x p.y p.z) d⟩) q ∧ (g.wake p d).light q = lightC (some ⟨c.cells, c.lights, tv, wakeT c.ticks (idx p.x p.y p.z) d⟩) q ∧ (g.wake p d).due q = dueC (some ⟨c.cells, c.lights, tv, wakeT c.ticks (idx p.x p.y p.z) d⟩) q := by
 have hb := idx_bd p.x p.y p.z
 refine ⟨hg, hl, ?_⟩
 show (if q = p then (if g.due p = 0 then d else if d < g.due p then d else g.due p) else g.due q) = dueT (wakeT c.ticks (idx p.x p.y p.z) d) (idx q.x q.y q.z)
 rw [(wakeT_spec ht hb.1 hb.2 hd).2]
 have hp' : g.due p = dueT c.ticks (idx p.x p.y p.z) := hp
 have hq' : g.due q = dueT c.ticks (idx q.x q.y q.z) := hq
 by_cases e : q = p
 ·subst e; rw [if_pos rfl, if_pos rfl, hp']
 ·rw [if_neg e, if_neg (fun h => e (idx_inj hs h)), hq']
theorem drop_in {c : Ch} (ht : TOk c.ticks) {g : Fld} {p q : Pl} {tv : Value} (hs : spotP q = spotP p) (hg : g.cell q = cellC (some c) q) (hl : g.light q = lightC (some c) q) (hq : g.due q = dueC (some c) q) :
  (g.drop p).cell q = cellC (some ⟨c.cells, c.lights, tv, dropT c.ticks (idx p.x p.y p.z)⟩) q ∧ (g.drop p).light q = lightC (some ⟨c.cells, c.lights, tv, dropT c.ticks (idx p.x p.y p.z)⟩) q ∧ (g.drop p).due q = dueC (some ⟨c.cells, c.lights, tv, dropT c.ticks (idx p.x p.y p.z)⟩) q := by
 refine ⟨hg, hl, ?_⟩
 show (if q = p then 0 else g.due q) = dueT (dropT c.ticks (idx p.x p.y p.z)) (idx q.x q.y q.z)
 rw [(dropT_spec ht).2]
 have hq' : g.due q = dueT c.ticks (idx q.x q.y q.z) := hq
 by_cases e : q = p
 ·subst e; rw [if_pos rfl, if_pos rfl]
 ·rw [if_neg e, if_neg (fun h => e (idx_inj hs h)), hq']
theorem F_Wake (m r : Nat) (s : St) (g : Fld) (p : Pl) (hp : MayQ p) (d : Int) (hd : 1 ≤ d) : Tri Tryz.prog 187 [mp m, plv p, .int .i64 d] [Mb m r s, FieldR r g] (fun v Γ' => v = .tuple #[] ∧ Γ' = [Mb m r s, FieldR r (g.wake p d)]) := by
 have hb := idx_bd p.x p.y p.z
 refine Tri.field fun L hL hA => ?_
 cases hc : getM (keyed L) (spotP p) with
 | none =>
  have hn := keyed_none hc
  refine Tri.conseq (Tri.fr (Wake_none m r s (mapOf L) p.x p.y p.z hp hn.1 d hd) [star (L.map entA)]) ?_
  rintro v _ ⟨Γ', ⟨rfl, b, tv, hsv, rfl⟩, rfl⟩
  have hk : (landCh (p.y / 16)).Ok := chA_ok _ _ _
  refine ⟨_, ⟨rfl, rfl⟩, fun h st => closeN (b := b) (c := ⟨(landCh (p.y / 16)).cells, (landCh (p.y / 16)).lights, tv, wakeT [] (idx p.x p.y p.z) d⟩) hn.1 (hL.add hn.2 (spot_may hp) (Ch.setTicks hk _ hsv) (wakeT_spec TOk.nil hb.1 hb.2 hd).1) (hA.add hc ?_ ?_ ?_) h st⟩
  ·have l0 : chD (spotP p) (landCh (p.y / 16)) = 0 := landD (spotP p)
   exact (show g.D = g.D + chD (spotP p) (landCh (p.y / 16)) by omega)
  ·intro q hq hs
   obtain ⟨a1, a2, a3⟩ := at_out hA hc hq hs
   exact wake_in (c := landCh (p.y / 16)) TOk.nil hd hs a1 a2 a3 (at_out hA hc hp rfl).2.2
  ·intro q hq hs
   exact ⟨rfl, rfl, if_neg fun e => hs (by rw [e])⟩
 | some c =>
  obtain ⟨A, B, b, rfl, h1, h2⟩ := getM_split hL hc
  have he := hL.all (spotP p, b, c) (by simp)
  refine Tri.someE (Tri.conseq (Tri.fr (Wake_some m r s _ p.x p.y p.z hp (mapOf_mid A B (spotP p) b c h1) c he.ok he.tk.len d hd) [star ((A ++ B).map entA)]) ?_)
  rintro v _ ⟨Γ', ⟨rfl, tv, hsv, rfl⟩, rfl⟩
  have hm : mapOf (A ++ (spotP p, b, c) :: B) = mapOf (A ++ (spotP p, b, ⟨c.cells, c.lights, tv, wakeT c.ticks (idx p.x p.y p.z) d⟩) :: B) := by simp [mapOf]
  refine ⟨_, ⟨rfl, rfl⟩, fun h st => FieldR.closeE (A := A) (B := B) (k := spotP p) (b := b) (c := ⟨c.cells, c.lights, tv, wakeT c.ticks (idx p.x p.y p.z) d⟩) (hL.upd (Ch.setTicks he.ok _ hsv) (wakeT_spec he.tk hb.1 hb.2 hd).1) (hA.upd h1 ?_ ?_ ?_) h (by rw [← hm]; exact st)⟩
  ·exact (show g.D = g.D + chD (spotP p) c - chD (spotP p) c by omega)
  ·intro q hq hs
   obtain ⟨a1, a2, a3⟩ := at_in hA hc hq hs
   exact wake_in he.tk hd hs a1 a2 a3 (at_in hA hc hp rfl).2.2
  ·intro q hq hs
   exact ⟨rfl, rfl, if_neg fun e => hs (by rw [e])⟩
theorem F_Drop (m r : Nat) (s : St) (g : Fld) (p : Pl) (hp : MayQ p) : Tri Tryz.prog 181 [mp m, plv p] [Mb m r s, FieldR r g] (fun v Γ' => v = .tuple #[] ∧ Γ' = [Mb m r s, FieldR r (g.drop p)]) := by
 refine Tri.field fun L hL hA => ?_
 cases hc : getM (keyed L) (spotP p) with
 | none =>
  have hn := keyed_none hc
  refine Tri.conseq (Tri.fr (Drop_none m r s (mapOf L) p.x p.y p.z hp hn.1) [star (L.map entA)]) ?_
  rintro v _ ⟨Γ', ⟨rfl, rfl⟩, rfl⟩
  refine ⟨_, ⟨rfl, rfl⟩, FieldR.close hL ⟨fun q hq => hA.cell q hq, fun q hq => hA.light q hq, fun q hq => ?_, hA.D⟩⟩
  show (if q = p then 0 else g.due q) = _
  by_cases e : q = p
  ·subst e; rw [if_pos rfl, hc]; rfl
  ·rw [if_neg e]; exact hA.due q hq
 | some c =>
  obtain ⟨A, B, b, rfl, h1, h2⟩ := getM_split hL hc
  have he := hL.all (spotP p, b, c) (by simp)
  refine Tri.someE (Tri.conseq (Tri.fr (Drop_some m r s _ p.x p.y p.z hp (mapOf_mid A B (spotP p) b c h1) c he.ok he.tk.len) [star ((A ++ B).map entA)]) ?_)
  rintro v _ ⟨Γ', ⟨rfl, tv, hsv, rfl⟩, rfl⟩
  have hm : mapOf (A ++ (spotP p, b, c) :: B) = mapOf (A ++ (spotP p, b, ⟨c.cells, c.lights, tv, dropT c.ticks (idx p.x p.y p.z)⟩) :: B) := by simp [mapOf]
  refine ⟨_, ⟨rfl, rfl⟩, fun h st => FieldR.closeE (A := A) (B := B) (k := spotP p) (b := b) (c := ⟨c.cells, c.lights, tv, dropT c.ticks (idx p.x p.y p.z)⟩) (hL.upd (Ch.setTicks he.ok _ hsv) (dropT_spec he.tk).1) (hA.upd h1 ?_ ?_ ?_) h (by rw [← hm]; exact st)⟩
  ·exact (show g.D = g.D + chD (spotP p) c - chD (spotP p) c by omega)
  ·intro q hq hs
   obtain ⟨a1, a2, a3⟩ := at_in hA hc hq hs
   exact drop_in he.tk hs a1 a2 a3
  ·intro q hq hs
   exact ⟨rfl, rfl, if_neg fun e => hs (by rw [e])⟩
theorem F_Ready (m r : Nat) (s : St) (g : Fld) (k : Pl) (now : Int) : Tri Tryz.prog 186 [mp m, plv k, .int .i64 now] [Mb m r s, FieldR r g]
  (fun v Γ' => ∃ ts : List Tk, (∀ t ∈ ts, 0 ≤ t.i ∧ t.i < 4096) ∧ ts.length ≤ 4096 ∧ Γ' = [TkS v ts, Mb m r s, FieldR r g]) := by
 refine Tri.field fun L hL hA => ?_
 cases hc : getM (keyed L) k with
 | none =>
  refine Tri.conseq (Tri.fr (Ready_none m r s (mapOf L) k now (keyed_none hc).1) [star (L.map entA)]) ?_
  rintro v _ ⟨Γ', ⟨rfl, rfl⟩, rfl⟩
  exact ⟨_, ⟨[], by simp, by simp, rfl⟩, fun h st => star_nilS h (FieldR.close hL hA h st)⟩
 | some c =>
  obtain ⟨A, B, b, rfl, h1, h2⟩ := getM_split hL hc
  have he := hL.all (k, b, c) (by simp)
  refine Tri.someE (Tri.conseq (Tri.fr (Ready_some m r s _ k now (mapOf_mid A B k b c h1) c he.ok he.tk.len) [star ((A ++ B).map entA)]) ?_)
  rintro v _ ⟨Γ', ⟨ts, hts, rfl⟩, rfl⟩
  refine ⟨_, ⟨ts, fun t ht => ?_, ?_, rfl⟩, fun h st => star_tail (fun k' s' => FieldR.closeE hL hA k' s') st⟩
  ·have h3 : t ∈ rdT c.ticks now c.ticks.length := hts.mem_iff.1 ht
   have h4 := he.tk.rng t (List.mem_of_mem_take (List.mem_filter.1 h3).1)
   exact ⟨h4.1, h4.2.1⟩
  ·rw [hts.length_eq]; have := rdT_le c.ticks now c.ticks.length; have hq : c.ticks.length ≤ 4096 := he.tk.len; omega
end Go.Proofs

namespace Go.Proofs
open Go.Bk
def xorU (a b : Int) : Int := bitsV .xor .u64 a b
def mixU (x : Int) : Int :=
 xorU (IntKind.u64.wrap (xorU (IntKind.u64.wrap (xorU (IntKind.u64.wrap (x + 11400714819323198485)) (IntKind.u64.wrap (x + 11400714819323198485) / 1073741824) * 13787848793156543929)) (IntKind.u64.wrap (xorU (IntKind.u64.wrap (x + 11400714819323198485)) (IntKind.u64.wrap (x + 11400714819323198485) / 1073741824) * 13787848793156543929) / 134217728) * 10723151780598845931))
  (IntKind.u64.wrap (xorU (IntKind.u64.wrap (xorU (IntKind.u64.wrap (x + 11400714819323198485)) (IntKind.u64.wrap (x + 11400714819323198485) / 1073741824) * 13787848793156543929)) (IntKind.u64.wrap (xorU (IntKind.u64.wrap (x + 11400714819323198485)) (IntKind.u64.wrap (x + 11400714819323198485) / 1073741824) * 13787848793156543929) / 134217728) * 10723151780598845931) / 2147483648)
theorem xorU_bd (a b : Int) : 0 ≤ xorU a b ∧ xorU a b < 18446744073709551616 := by
 show 0 ≤ IntKind.u64.wrap _ ∧ IntKind.u64.wrap _ < _
 have h : ∀ n, 0 ≤ IntKind.u64.wrap n ∧ IntKind.u64.wrap n < 18446744073709551616 := fun n => by
  unfold IntKind.wrap; simp only [IntKind.bits, IntKind.signed, Bool.false_and]; simp; omega
 exact h _
theorem mixU_bd (x : Int) : 0 ≤ mixU x ∧ mixU x < 18446744073709551616 := xorU_bd _ _
def foldU (h : Int) (l : List Int) : Int := l.foldl (fun h x => mixU (xorU h x)) h
def us (l : List Int) : List Value := l.map fun x => .int .u64 x
theorem us_at {l : List Int} {i : Nat} {x : Int} (h : l[i]? = some x) : GtL (us l) i (.int .u64 x) := ⟨by simp [us, h]⟩
theorem foldU_succ {h : Int} {l : List Int} {i : Nat} {x : Int} (hx : l[i]? = some x) : foldU h (l.take (i + 1)) = mixU (xorU (foldU h (l.take i)) x) := by
 unfold foldU; rw [List.take_add_one, hx]; simp [List.foldl_append]
def hashU (seed : Int) (p : Pl) (now : Int) : Int := foldU (mixU seed) [IntKind.u64.wrap p.x, IntKind.u64.wrap p.y, IntKind.u64.wrap p.z, IntKind.u64.wrap now]
theorem foldU_bd (h : Int) (l : List Int) (hl : l ≠ []) : 0 ≤ foldU h l ∧ foldU h l < 18446744073709551616 := by
 obtain ⟨a, x, rfl⟩ : ∃ a x, l = a ++ [x] := ⟨l.dropLast, l.getLast hl, (List.dropLast_concat_getLast hl).symm⟩
 unfold foldU; rw [List.foldl_append]; exact mixU_bd _
theorem hashU_bd (seed : Int) (p : Pl) (now : Int) : 0 ≤ hashU seed p now ∧ hashU seed p now < 18446744073709551616 := foldU_bd _ _ (by simp)
theorem c157 (x : Int) : Pur Tryz.prog 157 [.int .u64 x] (.int .u64 (mixU x)) := by
 refine Pcalls (n := 19) Tryz.func157 rfl rfl rfl fun W0 H0 => ?_
 refine SP.r2 ?_
 refine XL.a ?_
 refine XL.n4 ?_
 refine XL.m ?_
 refine XL.addw rfl rfl rfl ?_
 refine XL.a ?_
 refine XL.n4 ?_
 refine XL.m ?_
 refine XL.m ?_
 refine XL.shr rfl rfl (by decide) (fdiv_of (m := 1073741824) rfl (by decide)) rfl ?_
 refine XL.xor rfl rfl rfl rfl ?_
 refine XL.mulw rfl rfl rfl ?_
 refine XL.a ?_
 refine XL.n4 ?_
 refine XL.m ?_
 refine XL.m ?_
 refine XL.shr rfl rfl (by decide) (fdiv_of (m := 134217728) rfl (by decide)) rfl ?_
 refine XL.xor rfl rfl rfl rfl ?_
 refine XL.mulw rfl rfl rfl ?_
 refine XL.a ?_
 refine XL.n4 ?_
 refine XL.m ?_
 refine XL.m ?_
 refine XL.shr rfl rfl (by decide) (fdiv_of (m := 2147483648) rfl (by decide)) rfl ?_
 refine XL.xor rfl rfl rfl rfl ?_
 refine XL.a ?_
 refine XL.n2 ?_
 refine SP.ret ?_
 refine Jp.pur1 (.inr rfl) rfl rfl rfl
theorem c156 (h : Int) (l : List Int) (b : Nat) (hl : l.length < 1000) : Tri Tryz.prog 156 [.int .u64 h, .slice (some ⟨b, 0, none⟩) l.length l.length] [pt b (cel (us l) 22)] (fun v Γ' => v = .int .u64 (foldU h l) ∧ Γ' = [pt b (cel (us l) 22)]) := by
 refine Pcalls (n := 19) Tryz.func156 rfl rfl rfl fun W0 H0 => ?_
 refine SP.r2 ?_
 refine XL.a ?_
 refine XL.n5 ?_
 refine SP.r2 ?_
 refine XL.m ?_
 refine XL.len (by rfl) (by rfl) ?_
 refine XL.m ?_
 refine XL.n2 ?_
 refine SP.block ?_
 refine SP.loop (X := Nat) (fun i => [(9, .int .i64 (i : Int)), (8, .int .i64 (l.length : Int)), (7, .slice (some ⟨b, 0, none⟩) l.length l.length), (0, .int .u64 (foldU h (l.take i)))]) (fun i => [pt b (cel (us l) 22)]) (fun i => i ≤ l.length) (fun i => l.length - i) 0 (by omega) (by repeat' constructor) (Pk.drop (by repeat' constructor)) ?_
 rintro i hi
 refine SP.r2 ?_
 refine XL.lss_s rfl rfl rfl (fun h1 => ?_) (fun h1 => ?_)
 ·refine XL.n5 ?_
  refine SP.t ?_
  refine SP.skip ?_
  refine Jp.then_normal ?_
  refine SP.seq ?_
  refine SP.block ?_
  refine SP.r2 ?_
  obtain ⟨x, hgt⟩ : ∃ x, l[i]? = some x := ⟨_, List.getElem?_eq_getElem (show i < l.length by omega)⟩
  refine XL.indexSl (r := i) rfl rfl (by omega) (by omega) (by simp) rfl ?_
  refine XL.load (hv := us_at hgt) rfl rfl ?_
  refine XL.a ?_
  refine XL.n3 ?_
  refine XL.m ?_
  refine XL.m ?_
  refine XL.xor rfl rfl rfl rfl ?_
  refine XL.cp rfl (c157 _) rfl ?_
  refine XL.a ?_
  refine XL.nil ?_
  refine Jp.block_normal ?_
  refine Jp.then_normal ?_
  refine SP.region ?_
  refine XL.add_i64 rfl rfl (by omega) (by omega) rfl ?_
  refine XL.m ?_
  refine XL.nil ?_
  refine Jp.round (i + 1) (by omega) (by omega) (by rw [foldU_succ hgt]; repeat' constructor) (Pk.drop (by repeat' constructor))
 ·refine XL.n5 ?_
  refine SP.f ?_
  refine SP.exit ?_
  refine Jp.then_exit ?_
  refine Jp.then_exit ?_
  refine Jp.block_here ?_
  refine Jp.n4 ?_
  refine XL.m ?_
  refine XL.a ?_
  refine XL.n2 ?_
  refine SP.ret ?_
  obtain rfl : i = l.length := by omega
  refine Jp.end1 (.inr rfl) rfl rfl ⟨by rw [List.take_length], rfl⟩
theorem c134 (seed : Int) (p : Pl) (now : Int) : Pur Tryz.prog 134 [.int .u64 seed, .agg #[.int .i64 p.x, .int .i64 p.y, .int .i64 p.z], .int .i64 now] (.int .u64 (hashU seed p now)) := by
 refine Pcalls (n := 22) Tryz.func134 rfl rfl rfl fun W0 H0 => ?_
 refine SP.r2 ?_
 refine XL.boxA rfl rfl (fun b1 => ?_)
 refine XL.a ?_
 refine XL.n5 ?_
 refine SP.any (m := 16) Tryz.fol rfl ?_
 refine XA.tk (i := 0) rfl rfl rfl (fun _ _ _ => XL.move rfl rfl) ?_
 refine XA.tk (i := 2) rfl rfl rfl (fun _ _ _ => XL.fieldAddr (by rfl) (by rfl)) ?_
 refine XA.tk (i := 5) rfl rfl rfl (fun _ _ _ => XL.fieldAddr (by rfl) (by rfl)) ?_
 refine XA.tk (i := 8) rfl rfl rfl (fun _ _ _ => XL.fieldAddr (by rfl) (by rfl)) ?_
 refine XA.tk (i := 11) rfl rfl rfl (fun _ _ _ => XL.move rfl rfl) ?_
 refine XA.tk (i := 12) rfl rfl rfl (fun _ _ _ => XL.convw (by rfl) ⟨_, Tryz.underlying2⟩ (by rfl)) ?_
 refine XA.many [1, 3, 6, 9] (by kernel_rfl) rfl ?_
 refine XO.cons (i := 1) rfl rfl ?_ ?_
 ·refine XL.cp rfl (c157 _) rfl ?_
  refine XL.on ?_
  refine XA.many [3, 6, 9] (by kernel_rfl) rfl ?_
  refine XO.cons (i := 3) rfl rfl ?_ ?_
  ·refine XL.l ?_
   refine XL.on ?_
   refine XA.tk (i := 4) rfl rfl rfl (fun _ _ _ => XL.convw (by rfl) ⟨_, Tryz.underlying2⟩ (by rfl)) ?_
   refine XA.two (i := 6) (j := 9) rfl rfl (by kernel_rfl) rfl rfl ?_ ?_
   ·refine XL.l ?_
    refine XL.on ?_
    refine XA.tk (i := 7) rfl rfl rfl (fun _ _ _ => XL.convw (by rfl) ⟨_, Tryz.underlying2⟩ (by rfl)) ?_
    refine XA.o 9 ?_
    refine XL.l ?_
    refine XL.on ?_
    refine XA.tk (i := 10) rfl rfl rfl (fun _ _ _ => XL.convw (by rfl) ⟨_, Tryz.underlying2⟩ (by rfl)) ?_
    refine XA.o 13 ?_
    refine XL.buildSlice (by rfl) (by rfl) (by rfl) (by decide) rfl (fun b3 => ?_)
    refine XL.on ?_
    refine XA.o 14 ?_
    refine XL.cr rfl (c156 (mixU seed) [IntKind.u64.wrap p.x, IntKind.u64.wrap p.y, IntKind.u64.wrap p.z, IntKind.u64.wrap now] b3 (by simp)) (by repeat' constructor) rfl ?_
    refine XL.on ?_
    refine XA.tk (i := 15) rfl rfl rfl (fun _ _ _ => XL.assign rfl rfl) ?_
    refine XA.done (by kernel_rfl) ?_
    refine Jp.then_normal ?_
    refine SP.ret ?_
    refine Jp.pur1 (.inr rfl) rfl rfl rfl
   ·refine XL.l ?_
    refine XL.on ?_
    refine XA.tk (i := 10) rfl rfl rfl (fun _ _ _ => XL.convw (by rfl) ⟨_, Tryz.underlying2⟩ (by rfl)) ?_
    refine XA.o 6 ?_
    refine XL.l ?_
    refine XL.on ?_
    refine XA.tk (i := 7) rfl rfl rfl (fun _ _ _ => XL.convw (by rfl) ⟨_, Tryz.underlying2⟩ (by rfl)) ?_
    refine XA.o 13 ?_
    refine XL.buildSlice (by rfl) (by rfl) (by rfl) (by decide) rfl (fun b3 => ?_)
    refine XL.on ?_
    refine XA.o 14 ?_
    refine XL.cr rfl (c156 (mixU seed) [IntKind.u64.wrap p.x, IntKind.u64.wrap p.y, IntKind.u64.wrap p.z, IntKind.u64.wrap now] b3 (by simp)) (by repeat' constructor) rfl ?_
    refine XL.on ?_
    refine XA.tk (i := 15) rfl rfl rfl (fun _ _ _ => XL.assign rfl rfl) ?_
    refine XA.done (by kernel_rfl) ?_
    refine Jp.then_normal ?_
    refine SP.ret ?_
    refine Jp.pur1 (.inr rfl) rfl rfl rfl
  refine XO.cons (i := 6) rfl rfl ?_ ?_
  ·refine XL.l ?_
   refine XL.on ?_
   refine XA.tk (i := 7) rfl rfl rfl (fun _ _ _ => XL.convw (by rfl) ⟨_, Tryz.underlying2⟩ (by rfl)) ?_
   refine XA.two (i := 3) (j := 9) rfl rfl (by kernel_rfl) rfl rfl ?_ ?_
   ·refine XL.l ?_
    refine XL.on ?_
    refine XA.tk (i := 4) rfl rfl rfl (fun _ _ _ => XL.convw (by rfl) ⟨_, Tryz.underlying2⟩ (by rfl)) ?_
    refine XA.o 9 ?_
    refine XL.l ?_
    refine XL.on ?_
    refine XA.tk (i := 10) rfl rfl rfl (fun _ _ _ => XL.convw (by rfl) ⟨_, Tryz.underlying2⟩ (by rfl)) ?_
    refine XA.o 13 ?_
    refine XL.buildSlice (by rfl) (by rfl) (by rfl) (by decide) rfl (fun b3 => ?_)
    refine XL.on ?_
    refine XA.o 14 ?_
    refine XL.cr rfl (c156 (mixU seed) [IntKind.u64.wrap p.x, IntKind.u64.wrap p.y, IntKind.u64.wrap p.z, IntKind.u64.wrap now] b3 (by simp)) (by repeat' constructor) rfl ?_
    refine XL.on ?_
    refine XA.tk (i := 15) rfl rfl rfl (fun _ _ _ => XL.assign rfl rfl) ?_
    refine XA.done (by kernel_rfl) ?_
    refine Jp.then_normal ?_
    refine SP.ret ?_
    refine Jp.pur1 (.inr rfl) rfl rfl rfl
   ·refine XL.l ?_
    refine XL.on ?_
    refine XA.tk (i := 10) rfl rfl rfl (fun _ _ _ => XL.convw (by rfl) ⟨_, Tryz.underlying2⟩ (by rfl)) ?_
    refine XA.o 3 ?_
    refine XL.l ?_
    refine XL.on ?_
    refine XA.tk (i := 4) rfl rfl rfl (fun _ _ _ => XL.convw (by rfl) ⟨_, Tryz.underlying2⟩ (by rfl)) ?_
    refine XA.o 13 ?_
    refine XL.buildSlice (by rfl) (by rfl) (by rfl) (by decide) rfl (fun b3 => ?_)
    refine XL.on ?_
    refine XA.o 14 ?_
    refine XL.cr rfl (c156 (mixU seed) [IntKind.u64.wrap p.x, IntKind.u64.wrap p.y, IntKind.u64.wrap p.z, IntKind.u64.wrap now] b3 (by simp)) (by repeat' constructor) rfl ?_
    refine XL.on ?_
    refine XA.tk (i := 15) rfl rfl rfl (fun _ _ _ => XL.assign rfl rfl) ?_
    refine XA.done (by kernel_rfl) ?_
    refine Jp.then_normal ?_
    refine SP.ret ?_
    refine Jp.pur1 (.inr rfl) rfl rfl rfl
  refine XO.cons (i := 9) rfl rfl ?_ ?_
  ·refine XL.l ?_
   refine XL.on ?_
   refine XA.tk (i := 10) rfl rfl rfl (fun _ _ _ => XL.convw (by rfl) ⟨_, Tryz.underlying2⟩ (by rfl)) ?_
   refine XA.two (i := 3) (j := 6) rfl rfl (by kernel_rfl) rfl rfl ?_ ?_
   ·refine XL.l ?_
    refine XL.on ?_
    refine XA.tk (i := 4) rfl rfl rfl (fun _ _ _ => XL.convw (by rfl) ⟨_, Tryz.underlying2⟩ (by rfl)) ?_
    refine XA.o 6 ?_
    refine XL.l ?_
    refine XL.on ?_
    refine XA.tk (i := 7) rfl rfl rfl (fun _ _ _ => XL.convw (by rfl) ⟨_, Tryz.underlying2⟩ (by rfl)) ?_
    refine XA.o 13 ?_
    refine XL.buildSlice (by rfl) (by rfl) (by rfl) (by decide) rfl (fun b3 => ?_)
    refine XL.on ?_
    refine XA.o 14 ?_
    refine XL.cr rfl (c156 (mixU seed) [IntKind.u64.wrap p.x, IntKind.u64.wrap p.y, IntKind.u64.wrap p.z, IntKind.u64.wrap now] b3 (by simp)) (by repeat' constructor) rfl ?_
    refine XL.on ?_
    refine XA.tk (i := 15) rfl rfl rfl (fun _ _ _ => XL.assign rfl rfl) ?_
    refine XA.done (by kernel_rfl) ?_
    refine Jp.then_normal ?_
    refine SP.ret ?_
    refine Jp.pur1 (.inr rfl) rfl rfl rfl
   ·refine XL.l ?_
    refine XL.on ?_
    refine XA.tk (i := 7) rfl rfl rfl (fun _ _ _ => XL.convw (by rfl) ⟨_, Tryz.underlying2⟩ (by rfl)) ?_
    refine XA.o 3 ?_
    refine XL.l ?_
    refine XL.on ?_
    refine XA.tk (i := 4) rfl rfl rfl (fun _ _ _ => XL.convw (by rfl) ⟨_, Tryz.underlying2⟩ (by rfl)) ?_
    refine XA.o 13 ?_
    refine XL.buildSlice (by rfl) (by rfl) (by rfl) (by decide) rfl (fun b3 => ?_)
    refine XL.on ?_
    refine XA.o 14 ?_
    refine XL.cr rfl (c156 (mixU seed) [IntKind.u64.wrap p.x, IntKind.u64.wrap p.y, IntKind.u64.wrap p.z, IntKind.u64.wrap now] b3 (by simp)) (by repeat' constructor) rfl ?_
    refine XL.on ?_
    refine XA.tk (i := 15) rfl rfl rfl (fun _ _ _ => XL.assign rfl rfl) ?_
    refine XA.done (by kernel_rfl) ?_
    refine Jp.then_normal ?_
    refine SP.ret ?_
    refine Jp.pur1 (.inr rfl) rfl rfl rfl
  exact XO.nil
 refine XO.cons (i := 3) rfl rfl ?_ ?_
 ·refine XL.l ?_
  refine XL.on ?_
  refine XA.tk (i := 4) rfl rfl rfl (fun _ _ _ => XL.convw (by rfl) ⟨_, Tryz.underlying2⟩ (by rfl)) ?_
  refine XA.many [1, 6, 9] (by kernel_rfl) rfl ?_
  refine XO.cons (i := 1) rfl rfl ?_ ?_
  ·refine XL.cp rfl (c157 _) rfl ?_
   refine XL.on ?_
   refine XA.two (i := 6) (j := 9) rfl rfl (by kernel_rfl) rfl rfl ?_ ?_
   ·refine XL.l ?_
    refine XL.on ?_
    refine XA.tk (i := 7) rfl rfl rfl (fun _ _ _ => XL.convw (by rfl) ⟨_, Tryz.underlying2⟩ (by rfl)) ?_
    refine XA.o 9 ?_
    refine XL.l ?_
    refine XL.on ?_
    refine XA.tk (i := 10) rfl rfl rfl (fun _ _ _ => XL.convw (by rfl) ⟨_, Tryz.underlying2⟩ (by rfl)) ?_
    refine XA.o 13 ?_
    refine XL.buildSlice (by rfl) (by rfl) (by rfl) (by decide) rfl (fun b3 => ?_)
    refine XL.on ?_
    refine XA.o 14 ?_
    refine XL.cr rfl (c156 (mixU seed) [IntKind.u64.wrap p.x, IntKind.u64.wrap p.y, IntKind.u64.wrap p.z, IntKind.u64.wrap now] b3 (by simp)) (by repeat' constructor) rfl ?_
    refine XL.on ?_
    refine XA.tk (i := 15) rfl rfl rfl (fun _ _ _ => XL.assign rfl rfl) ?_
    refine XA.done (by kernel_rfl) ?_
    refine Jp.then_normal ?_
    refine SP.ret ?_
    refine Jp.pur1 (.inr rfl) rfl rfl rfl
   ·refine XL.l ?_
    refine XL.on ?_
    refine XA.tk (i := 10) rfl rfl rfl (fun _ _ _ => XL.convw (by rfl) ⟨_, Tryz.underlying2⟩ (by rfl)) ?_
    refine XA.o 6 ?_
    refine XL.l ?_
    refine XL.on ?_
    refine XA.tk (i := 7) rfl rfl rfl (fun _ _ _ => XL.convw (by rfl) ⟨_, Tryz.underlying2⟩ (by rfl)) ?_
    refine XA.o 13 ?_
    refine XL.buildSlice (by rfl) (by rfl) (by rfl) (by decide) rfl (fun b3 => ?_)
    refine XL.on ?_
    refine XA.o 14 ?_
    refine XL.cr rfl (c156 (mixU seed) [IntKind.u64.wrap p.x, IntKind.u64.wrap p.y, IntKind.u64.wrap p.z, IntKind.u64.wrap now] b3 (by simp)) (by repeat' constructor) rfl ?_
    refine XL.on ?_
    refine XA.tk (i := 15) rfl rfl rfl (fun _ _ _ => XL.assign rfl rfl) ?_
    refine XA.done (by kernel_rfl) ?_
    refine Jp.then_normal ?_
    refine SP.ret ?_
    refine Jp.pur1 (.inr rfl) rfl rfl rfl
  refine XO.cons (i := 6) rfl rfl ?_ ?_
  ·refine XL.l ?_
   refine XL.on ?_
   refine XA.tk (i := 7) rfl rfl rfl (fun _ _ _ => XL.convw (by rfl) ⟨_, Tryz.underlying2⟩ (by rfl)) ?_
   refine XA.two (i := 1) (j := 9) rfl rfl (by kernel_rfl) rfl rfl ?_ ?_
   ·refine XL.cp rfl (c157 _) rfl ?_
    refine XL.on ?_
    refine XA.o 9 ?_
    refine XL.l ?_
    refine XL.on ?_
    refine XA.tk (i := 10) rfl rfl rfl (fun _ _ _ => XL.convw (by rfl) ⟨_, Tryz.underlying2⟩ (by rfl)) ?_
    refine XA.o 13 ?_
    refine XL.buildSlice (by rfl) (by rfl) (by rfl) (by decide) rfl (fun b3 => ?_)
    refine XL.on ?_
    refine XA.o 14 ?_
    refine XL.cr rfl (c156 (mixU seed) [IntKind.u64.wrap p.x, IntKind.u64.wrap p.y, IntKind.u64.wrap p.z, IntKind.u64.wrap now] b3 (by simp)) (by repeat' constructor) rfl ?_
    refine XL.on ?_
    refine XA.tk (i := 15) rfl rfl rfl (fun _ _ _ => XL.assign rfl rfl) ?_
    refine XA.done (by kernel_rfl) ?_
    refine Jp.then_normal ?_
    refine SP.ret ?_
    refine Jp.pur1 (.inr rfl) rfl rfl rfl
   ·refine XL.l ?_
    refine XL.on ?_
    refine XA.tk (i := 10) rfl rfl rfl (fun _ _ _ => XL.convw (by rfl) ⟨_, Tryz.underlying2⟩ (by rfl)) ?_
    refine XA.two (i := 1) (j := 13) rfl rfl (by kernel_rfl) rfl rfl ?_ ?_
    ·refine XL.cp rfl (c157 _) rfl ?_
     refine XL.on ?_
     refine XA.o 13 ?_
     refine XL.buildSlice (by rfl) (by rfl) (by rfl) (by decide) rfl (fun b3 => ?_)
     refine XL.on ?_
     refine XA.o 14 ?_
     refine XL.cr rfl (c156 (mixU seed) [IntKind.u64.wrap p.x, IntKind.u64.wrap p.y, IntKind.u64.wrap p.z, IntKind.u64.wrap now] b3 (by simp)) (by repeat' constructor) rfl ?_
     refine XL.on ?_
     refine XA.tk (i := 15) rfl rfl rfl (fun _ _ _ => XL.assign rfl rfl) ?_
     refine XA.done (by kernel_rfl) ?_
     refine Jp.then_normal ?_
     refine SP.ret ?_
     refine Jp.pur1 (.inr rfl) rfl rfl rfl
    ·refine XL.buildSlice (by rfl) (by rfl) (by rfl) (by decide) rfl (fun b3 => ?_)
     refine XL.on ?_
     refine XA.o 1 ?_
     refine XL.cp rfl (c157 _) rfl ?_
     refine XL.on ?_
     refine XA.o 14 ?_
     refine XL.cr rfl (c156 (mixU seed) [IntKind.u64.wrap p.x, IntKind.u64.wrap p.y, IntKind.u64.wrap p.z, IntKind.u64.wrap now] b3 (by simp)) (by repeat' constructor) rfl ?_
     refine XL.on ?_
     refine XA.tk (i := 15) rfl rfl rfl (fun _ _ _ => XL.assign rfl rfl) ?_
     refine XA.done (by kernel_rfl) ?_
     refine Jp.then_normal ?_
     refine SP.ret ?_
     refine Jp.pur1 (.inr rfl) rfl rfl rfl
  refine XO.cons (i := 9) rfl rfl ?_ ?_
  ·refine XL.l ?_
   refine XL.on ?_
   refine XA.tk (i := 10) rfl rfl rfl (fun _ _ _ => XL.convw (by rfl) ⟨_, Tryz.underlying2⟩ (by rfl)) ?_
   refine XA.two (i := 1) (j := 6) rfl rfl (by kernel_rfl) rfl rfl ?_ ?_
   ·refine XL.cp rfl (c157 _) rfl ?_
    refine XL.on ?_
    refine XA.o 6 ?_
    refine XL.l ?_
    refine XL.on ?_
    refine XA.tk (i := 7) rfl rfl rfl (fun _ _ _ => XL.convw (by rfl) ⟨_, Tryz.underlying2⟩ (by rfl)) ?_
    refine XA.o 13 ?_
    refine XL.buildSlice (by rfl) (by rfl) (by rfl) (by decide) rfl (fun b3 => ?_)
    refine XL.on ?_
    refine XA.o 14 ?_
    refine XL.cr rfl (c156 (mixU seed) [IntKind.u64.wrap p.x, IntKind.u64.wrap p.y, IntKind.u64.wrap p.z, IntKind.u64.wrap now] b3 (by simp)) (by repeat' constructor) rfl ?_
    refine XL.on ?_
    refine XA.tk (i := 15) rfl rfl rfl (fun _ _ _ => XL.assign rfl rfl) ?_
    refine XA.done (by kernel_rfl) ?_
    refine Jp.then_normal ?_
    refine SP.ret ?_
    refine Jp.pur1 (.inr rfl) rfl rfl rfl
   ·refine XL.l ?_
    refine XL.on ?_
    refine XA.tk (i := 7) rfl rfl rfl (fun _ _ _ => XL.convw (by rfl) ⟨_, Tryz.underlying2⟩ (by rfl)) ?_
    refine XA.two (i := 1) (j := 13) rfl rfl (by kernel_rfl) rfl rfl ?_ ?_
    ·refine XL.cp rfl (c157 _) rfl ?_
     refine XL.on ?_
     refine XA.o 13 ?_
     refine XL.buildSlice (by rfl) (by rfl) (by rfl) (by decide) rfl (fun b3 => ?_)
     refine XL.on ?_
     refine XA.o 14 ?_
     refine XL.cr rfl (c156 (mixU seed) [IntKind.u64.wrap p.x, IntKind.u64.wrap p.y, IntKind.u64.wrap p.z, IntKind.u64.wrap now] b3 (by simp)) (by repeat' constructor) rfl ?_
     refine XL.on ?_
     refine XA.tk (i := 15) rfl rfl rfl (fun _ _ _ => XL.assign rfl rfl) ?_
     refine XA.done (by kernel_rfl) ?_
     refine Jp.then_normal ?_
     refine SP.ret ?_
     refine Jp.pur1 (.inr rfl) rfl rfl rfl
    ·refine XL.buildSlice (by rfl) (by rfl) (by rfl) (by decide) rfl (fun b3 => ?_)
     refine XL.on ?_
     refine XA.o 1 ?_
     refine XL.cp rfl (c157 _) rfl ?_
     refine XL.on ?_
     refine XA.o 14 ?_
     refine XL.cr rfl (c156 (mixU seed) [IntKind.u64.wrap p.x, IntKind.u64.wrap p.y, IntKind.u64.wrap p.z, IntKind.u64.wrap now] b3 (by simp)) (by repeat' constructor) rfl ?_
     refine XL.on ?_
     refine XA.tk (i := 15) rfl rfl rfl (fun _ _ _ => XL.assign rfl rfl) ?_
     refine XA.done (by kernel_rfl) ?_
     refine Jp.then_normal ?_
     refine SP.ret ?_
     refine Jp.pur1 (.inr rfl) rfl rfl rfl
  exact XO.nil
 refine XO.cons (i := 6) rfl rfl ?_ ?_
 ·refine XL.l ?_
  refine XL.on ?_
  refine XA.tk (i := 7) rfl rfl rfl (fun _ _ _ => XL.convw (by rfl) ⟨_, Tryz.underlying2⟩ (by rfl)) ?_
  refine XA.many [1, 3, 9] (by kernel_rfl) rfl ?_
  refine XO.cons (i := 1) rfl rfl ?_ ?_
  ·refine XL.cp rfl (c157 _) rfl ?_
   refine XL.on ?_
   refine XA.two (i := 3) (j := 9) rfl rfl (by kernel_rfl) rfl rfl ?_ ?_
   ·refine XL.l ?_
    refine XL.on ?_
    refine XA.tk (i := 4) rfl rfl rfl (fun _ _ _ => XL.convw (by rfl) ⟨_, Tryz.underlying2⟩ (by rfl)) ?_
    refine XA.o 9 ?_
    refine XL.l ?_
    refine XL.on ?_
    refine XA.tk (i := 10) rfl rfl rfl (fun _ _ _ => XL.convw (by rfl) ⟨_, Tryz.underlying2⟩ (by rfl)) ?_
    refine XA.o 13 ?_
    refine XL.buildSlice (by rfl) (by rfl) (by rfl) (by decide) rfl (fun b3 => ?_)
    refine XL.on ?_
    refine XA.o 14 ?_
    refine XL.cr rfl (c156 (mixU seed) [IntKind.u64.wrap p.x, IntKind.u64.wrap p.y, IntKind.u64.wrap p.z, IntKind.u64.wrap now] b3 (by simp)) (by repeat' constructor) rfl ?_
    refine XL.on ?_
    refine XA.tk (i := 15) rfl rfl rfl (fun _ _ _ => XL.assign rfl rfl) ?_
    refine XA.done (by kernel_rfl) ?_
    refine Jp.then_normal ?_
    refine SP.ret ?_
    refine Jp.pur1 (.inr rfl) rfl rfl rfl
   ·refine XL.l ?_
    refine XL.on ?_
    refine XA.tk (i := 10) rfl rfl rfl (fun _ _ _ => XL.convw (by rfl) ⟨_, Tryz.underlying2⟩ (by rfl)) ?_
    refine XA.o 3 ?_
    refine XL.l ?_
    refine XL.on ?_
    refine XA.tk (i := 4) rfl rfl rfl (fun _ _ _ => XL.convw (by rfl) ⟨_, Tryz.underlying2⟩ (by rfl)) ?_
    refine XA.o 13 ?_
    refine XL.buildSlice (by rfl) (by rfl) (by rfl) (by decide) rfl (fun b3 => ?_)
    refine XL.on ?_
    refine XA.o 14 ?_
    refine XL.cr rfl (c156 (mixU seed) [IntKind.u64.wrap p.x, IntKind.u64.wrap p.y, IntKind.u64.wrap p.z, IntKind.u64.wrap now] b3 (by simp)) (by repeat' constructor) rfl ?_
    refine XL.on ?_
    refine XA.tk (i := 15) rfl rfl rfl (fun _ _ _ => XL.assign rfl rfl) ?_
    refine XA.done (by kernel_rfl) ?_
    refine Jp.then_normal ?_
    refine SP.ret ?_
    refine Jp.pur1 (.inr rfl) rfl rfl rfl
  refine XO.cons (i := 3) rfl rfl ?_ ?_
  ·refine XL.l ?_
   refine XL.on ?_
   refine XA.tk (i := 4) rfl rfl rfl (fun _ _ _ => XL.convw (by rfl) ⟨_, Tryz.underlying2⟩ (by rfl)) ?_
   refine XA.two (i := 1) (j := 9) rfl rfl (by kernel_rfl) rfl rfl ?_ ?_
   ·refine XL.cp rfl (c157 _) rfl ?_
    refine XL.on ?_
    refine XA.o 9 ?_
    refine XL.l ?_
    refine XL.on ?_
    refine XA.tk (i := 10) rfl rfl rfl (fun _ _ _ => XL.convw (by rfl) ⟨_, Tryz.underlying2⟩ (by rfl)) ?_
    refine XA.o 13 ?_
    refine XL.buildSlice (by rfl) (by rfl) (by rfl) (by decide) rfl (fun b3 => ?_)
    refine XL.on ?_
    refine XA.o 14 ?_
    refine XL.cr rfl (c156 (mixU seed) [IntKind.u64.wrap p.x, IntKind.u64.wrap p.y, IntKind.u64.wrap p.z, IntKind.u64.wrap now] b3 (by simp)) (by repeat' constructor) rfl ?_
    refine XL.on ?_
    refine XA.tk (i := 15) rfl rfl rfl (fun _ _ _ => XL.assign rfl rfl) ?_
    refine XA.done (by kernel_rfl) ?_
    refine Jp.then_normal ?_
    refine SP.ret ?_
    refine Jp.pur1 (.inr rfl) rfl rfl rfl
   ·refine XL.l ?_
    refine XL.on ?_
    refine XA.tk (i := 10) rfl rfl rfl (fun _ _ _ => XL.convw (by rfl) ⟨_, Tryz.underlying2⟩ (by rfl)) ?_
    refine XA.two (i := 1) (j := 13) rfl rfl (by kernel_rfl) rfl rfl ?_ ?_
    ·refine XL.cp rfl (c157 _) rfl ?_
     refine XL.on ?_
     refine XA.o 13 ?_
     refine XL.buildSlice (by rfl) (by rfl) (by rfl) (by decide) rfl (fun b3 => ?_)
     refine XL.on ?_
     refine XA.o 14 ?_
     refine XL.cr rfl (c156 (mixU seed) [IntKind.u64.wrap p.x, IntKind.u64.wrap p.y, IntKind.u64.wrap p.z, IntKind.u64.wrap now] b3 (by simp)) (by repeat' constructor) rfl ?_
     refine XL.on ?_
     refine XA.tk (i := 15) rfl rfl rfl (fun _ _ _ => XL.assign rfl rfl) ?_
     refine XA.done (by kernel_rfl) ?_
     refine Jp.then_normal ?_
     refine SP.ret ?_
     refine Jp.pur1 (.inr rfl) rfl rfl rfl
    ·refine XL.buildSlice (by rfl) (by rfl) (by rfl) (by decide) rfl (fun b3 => ?_)
     refine XL.on ?_
     refine XA.o 1 ?_
     refine XL.cp rfl (c157 _) rfl ?_
     refine XL.on ?_
     refine XA.o 14 ?_
     refine XL.cr rfl (c156 (mixU seed) [IntKind.u64.wrap p.x, IntKind.u64.wrap p.y, IntKind.u64.wrap p.z, IntKind.u64.wrap now] b3 (by simp)) (by repeat' constructor) rfl ?_
     refine XL.on ?_
     refine XA.tk (i := 15) rfl rfl rfl (fun _ _ _ => XL.assign rfl rfl) ?_
     refine XA.done (by kernel_rfl) ?_
     refine Jp.then_normal ?_
     refine SP.ret ?_
     refine Jp.pur1 (.inr rfl) rfl rfl rfl
  refine XO.cons (i := 9) rfl rfl ?_ ?_
  ·refine XL.l ?_
   refine XL.on ?_
   refine XA.tk (i := 10) rfl rfl rfl (fun _ _ _ => XL.convw (by rfl) ⟨_, Tryz.underlying2⟩ (by rfl)) ?_
   refine XA.two (i := 1) (j := 3) rfl rfl (by kernel_rfl) rfl rfl ?_ ?_
   ·refine XL.cp rfl (c157 _) rfl ?_
    refine XL.on ?_
    refine XA.o 3 ?_
    refine XL.l ?_
    refine XL.on ?_
    refine XA.tk (i := 4) rfl rfl rfl (fun _ _ _ => XL.convw (by rfl) ⟨_, Tryz.underlying2⟩ (by rfl)) ?_
    refine XA.o 13 ?_
    refine XL.buildSlice (by rfl) (by rfl) (by rfl) (by decide) rfl (fun b3 => ?_)
    refine XL.on ?_
    refine XA.o 14 ?_
    refine XL.cr rfl (c156 (mixU seed) [IntKind.u64.wrap p.x, IntKind.u64.wrap p.y, IntKind.u64.wrap p.z, IntKind.u64.wrap now] b3 (by simp)) (by repeat' constructor) rfl ?_
    refine XL.on ?_
    refine XA.tk (i := 15) rfl rfl rfl (fun _ _ _ => XL.assign rfl rfl) ?_
    refine XA.done (by kernel_rfl) ?_
    refine Jp.then_normal ?_
    refine SP.ret ?_
    refine Jp.pur1 (.inr rfl) rfl rfl rfl
   ·refine XL.l ?_
    refine XL.on ?_
    refine XA.tk (i := 4) rfl rfl rfl (fun _ _ _ => XL.convw (by rfl) ⟨_, Tryz.underlying2⟩ (by rfl)) ?_
    refine XA.two (i := 1) (j := 13) rfl rfl (by kernel_rfl) rfl rfl ?_ ?_
    ·refine XL.cp rfl (c157 _) rfl ?_
     refine XL.on ?_
     refine XA.o 13 ?_
     refine XL.buildSlice (by rfl) (by rfl) (by rfl) (by decide) rfl (fun b3 => ?_)
     refine XL.on ?_
     refine XA.o 14 ?_
     refine XL.cr rfl (c156 (mixU seed) [IntKind.u64.wrap p.x, IntKind.u64.wrap p.y, IntKind.u64.wrap p.z, IntKind.u64.wrap now] b3 (by simp)) (by repeat' constructor) rfl ?_
     refine XL.on ?_
     refine XA.tk (i := 15) rfl rfl rfl (fun _ _ _ => XL.assign rfl rfl) ?_
     refine XA.done (by kernel_rfl) ?_
     refine Jp.then_normal ?_
     refine SP.ret ?_
     refine Jp.pur1 (.inr rfl) rfl rfl rfl
    ·refine XL.buildSlice (by rfl) (by rfl) (by rfl) (by decide) rfl (fun b3 => ?_)
     refine XL.on ?_
     refine XA.o 1 ?_
     refine XL.cp rfl (c157 _) rfl ?_
     refine XL.on ?_
     refine XA.o 14 ?_
     refine XL.cr rfl (c156 (mixU seed) [IntKind.u64.wrap p.x, IntKind.u64.wrap p.y, IntKind.u64.wrap p.z, IntKind.u64.wrap now] b3 (by simp)) (by repeat' constructor) rfl ?_
     refine XL.on ?_
     refine XA.tk (i := 15) rfl rfl rfl (fun _ _ _ => XL.assign rfl rfl) ?_
     refine XA.done (by kernel_rfl) ?_
     refine Jp.then_normal ?_
     refine SP.ret ?_
     refine Jp.pur1 (.inr rfl) rfl rfl rfl
  exact XO.nil
 refine XO.cons (i := 9) rfl rfl ?_ ?_
 ·refine XL.l ?_
  refine XL.on ?_
  refine XA.tk (i := 10) rfl rfl rfl (fun _ _ _ => XL.convw (by rfl) ⟨_, Tryz.underlying2⟩ (by rfl)) ?_
  refine XA.many [1, 3, 6] (by kernel_rfl) rfl ?_
  refine XO.cons (i := 1) rfl rfl ?_ ?_
  ·refine XL.cp rfl (c157 _) rfl ?_
   refine XL.on ?_
   refine XA.two (i := 3) (j := 6) rfl rfl (by kernel_rfl) rfl rfl ?_ ?_
   ·refine XL.l ?_
    refine XL.on ?_
    refine XA.tk (i := 4) rfl rfl rfl (fun _ _ _ => XL.convw (by rfl) ⟨_, Tryz.underlying2⟩ (by rfl)) ?_
    refine XA.o 6 ?_
    refine XL.l ?_
    refine XL.on ?_
    refine XA.tk (i := 7) rfl rfl rfl (fun _ _ _ => XL.convw (by rfl) ⟨_, Tryz.underlying2⟩ (by rfl)) ?_
    refine XA.o 13 ?_
    refine XL.buildSlice (by rfl) (by rfl) (by rfl) (by decide) rfl (fun b3 => ?_)
    refine XL.on ?_
    refine XA.o 14 ?_
    refine XL.cr rfl (c156 (mixU seed) [IntKind.u64.wrap p.x, IntKind.u64.wrap p.y, IntKind.u64.wrap p.z, IntKind.u64.wrap now] b3 (by simp)) (by repeat' constructor) rfl ?_
    refine XL.on ?_
    refine XA.tk (i := 15) rfl rfl rfl (fun _ _ _ => XL.assign rfl rfl) ?_
    refine XA.done (by kernel_rfl) ?_
    refine Jp.then_normal ?_
    refine SP.ret ?_
    refine Jp.pur1 (.inr rfl) rfl rfl rfl
   ·refine XL.l ?_
    refine XL.on ?_
    refine XA.tk (i := 7) rfl rfl rfl (fun _ _ _ => XL.convw (by rfl) ⟨_, Tryz.underlying2⟩ (by rfl)) ?_
    refine XA.o 3 ?_
    refine XL.l ?_
    refine XL.on ?_
    refine XA.tk (i := 4) rfl rfl rfl (fun _ _ _ => XL.convw (by rfl) ⟨_, Tryz.underlying2⟩ (by rfl)) ?_
    refine XA.o 13 ?_
    refine XL.buildSlice (by rfl) (by rfl) (by rfl) (by decide) rfl (fun b3 => ?_)
    refine XL.on ?_
    refine XA.o 14 ?_
    refine XL.cr rfl (c156 (mixU seed) [IntKind.u64.wrap p.x, IntKind.u64.wrap p.y, IntKind.u64.wrap p.z, IntKind.u64.wrap now] b3 (by simp)) (by repeat' constructor) rfl ?_
    refine XL.on ?_
    refine XA.tk (i := 15) rfl rfl rfl (fun _ _ _ => XL.assign rfl rfl) ?_
    refine XA.done (by kernel_rfl) ?_
    refine Jp.then_normal ?_
    refine SP.ret ?_
    refine Jp.pur1 (.inr rfl) rfl rfl rfl
  refine XO.cons (i := 3) rfl rfl ?_ ?_
  ·refine XL.l ?_
   refine XL.on ?_
   refine XA.tk (i := 4) rfl rfl rfl (fun _ _ _ => XL.convw (by rfl) ⟨_, Tryz.underlying2⟩ (by rfl)) ?_
   refine XA.two (i := 1) (j := 6) rfl rfl (by kernel_rfl) rfl rfl ?_ ?_
   ·refine XL.cp rfl (c157 _) rfl ?_
    refine XL.on ?_
    refine XA.o 6 ?_
    refine XL.l ?_
    refine XL.on ?_
    refine XA.tk (i := 7) rfl rfl rfl (fun _ _ _ => XL.convw (by rfl) ⟨_, Tryz.underlying2⟩ (by rfl)) ?_
    refine XA.o 13 ?_
    refine XL.buildSlice (by rfl) (by rfl) (by rfl) (by decide) rfl (fun b3 => ?_)
    refine XL.on ?_
    refine XA.o 14 ?_
    refine XL.cr rfl (c156 (mixU seed) [IntKind.u64.wrap p.x, IntKind.u64.wrap p.y, IntKind.u64.wrap p.z, IntKind.u64.wrap now] b3 (by simp)) (by repeat' constructor) rfl ?_
    refine XL.on ?_
    refine XA.tk (i := 15) rfl rfl rfl (fun _ _ _ => XL.assign rfl rfl) ?_
    refine XA.done (by kernel_rfl) ?_
    refine Jp.then_normal ?_
    refine SP.ret ?_
    refine Jp.pur1 (.inr rfl) rfl rfl rfl
   ·refine XL.l ?_
    refine XL.on ?_
    refine XA.tk (i := 7) rfl rfl rfl (fun _ _ _ => XL.convw (by rfl) ⟨_, Tryz.underlying2⟩ (by rfl)) ?_
    refine XA.two (i := 1) (j := 13) rfl rfl (by kernel_rfl) rfl rfl ?_ ?_
    ·refine XL.cp rfl (c157 _) rfl ?_
     refine XL.on ?_
     refine XA.o 13 ?_
     refine XL.buildSlice (by rfl) (by rfl) (by rfl) (by decide) rfl (fun b3 => ?_)
     refine XL.on ?_
     refine XA.o 14 ?_
     refine XL.cr rfl (c156 (mixU seed) [IntKind.u64.wrap p.x, IntKind.u64.wrap p.y, IntKind.u64.wrap p.z, IntKind.u64.wrap now] b3 (by simp)) (by repeat' constructor) rfl ?_
     refine XL.on ?_
     refine XA.tk (i := 15) rfl rfl rfl (fun _ _ _ => XL.assign rfl rfl) ?_
     refine XA.done (by kernel_rfl) ?_
     refine Jp.then_normal ?_
     refine SP.ret ?_
     refine Jp.pur1 (.inr rfl) rfl rfl rfl
    ·refine XL.buildSlice (by rfl) (by rfl) (by rfl) (by decide) rfl (fun b3 => ?_)
     refine XL.on ?_
     refine XA.o 1 ?_
     refine XL.cp rfl (c157 _) rfl ?_
     refine XL.on ?_
     refine XA.o 14 ?_
     refine XL.cr rfl (c156 (mixU seed) [IntKind.u64.wrap p.x, IntKind.u64.wrap p.y, IntKind.u64.wrap p.z, IntKind.u64.wrap now] b3 (by simp)) (by repeat' constructor) rfl ?_
     refine XL.on ?_
     refine XA.tk (i := 15) rfl rfl rfl (fun _ _ _ => XL.assign rfl rfl) ?_
     refine XA.done (by kernel_rfl) ?_
     refine Jp.then_normal ?_
     refine SP.ret ?_
     refine Jp.pur1 (.inr rfl) rfl rfl rfl
  refine XO.cons (i := 6) rfl rfl ?_ ?_
  ·refine XL.l ?_
   refine XL.on ?_
   refine XA.tk (i := 7) rfl rfl rfl (fun _ _ _ => XL.convw (by rfl) ⟨_, Tryz.underlying2⟩ (by rfl)) ?_
   refine XA.two (i := 1) (j := 3) rfl rfl (by kernel_rfl) rfl rfl ?_ ?_
   ·refine XL.cp rfl (c157 _) rfl ?_
    refine XL.on ?_
    refine XA.o 3 ?_
    refine XL.l ?_
    refine XL.on ?_
    refine XA.tk (i := 4) rfl rfl rfl (fun _ _ _ => XL.convw (by rfl) ⟨_, Tryz.underlying2⟩ (by rfl)) ?_
    refine XA.o 13 ?_
    refine XL.buildSlice (by rfl) (by rfl) (by rfl) (by decide) rfl (fun b3 => ?_)
    refine XL.on ?_
    refine XA.o 14 ?_
    refine XL.cr rfl (c156 (mixU seed) [IntKind.u64.wrap p.x, IntKind.u64.wrap p.y, IntKind.u64.wrap p.z, IntKind.u64.wrap now] b3 (by simp)) (by repeat' constructor) rfl ?_
    refine XL.on ?_
    refine XA.tk (i := 15) rfl rfl rfl (fun _ _ _ => XL.assign rfl rfl) ?_
    refine XA.done (by kernel_rfl) ?_
    refine Jp.then_normal ?_
    refine SP.ret ?_
    refine Jp.pur1 (.inr rfl) rfl rfl rfl
   ·refine XL.l ?_
    refine XL.on ?_
    refine XA.tk (i := 4) rfl rfl rfl (fun _ _ _ => XL.convw (by rfl) ⟨_, Tryz.underlying2⟩ (by rfl)) ?_
    refine XA.two (i := 1) (j := 13) rfl rfl (by kernel_rfl) rfl rfl ?_ ?_
    ·refine XL.cp rfl (c157 _) rfl ?_
     refine XL.on ?_
     refine XA.o 13 ?_
     refine XL.buildSlice (by rfl) (by rfl) (by rfl) (by decide) rfl (fun b3 => ?_)
     refine XL.on ?_
     refine XA.o 14 ?_
     refine XL.cr rfl (c156 (mixU seed) [IntKind.u64.wrap p.x, IntKind.u64.wrap p.y, IntKind.u64.wrap p.z, IntKind.u64.wrap now] b3 (by simp)) (by repeat' constructor) rfl ?_
     refine XL.on ?_
     refine XA.tk (i := 15) rfl rfl rfl (fun _ _ _ => XL.assign rfl rfl) ?_
     refine XA.done (by kernel_rfl) ?_
     refine Jp.then_normal ?_
     refine SP.ret ?_
     refine Jp.pur1 (.inr rfl) rfl rfl rfl
    ·refine XL.buildSlice (by rfl) (by rfl) (by rfl) (by decide) rfl (fun b3 => ?_)
     refine XL.on ?_
     refine XA.o 1 ?_
     refine XL.cp rfl (c157 _) rfl ?_
     refine XL.on ?_
     refine XA.o 14 ?_
     refine XL.cr rfl (c156 (mixU seed) [IntKind.u64.wrap p.x, IntKind.u64.wrap p.y, IntKind.u64.wrap p.z, IntKind.u64.wrap now] b3 (by simp)) (by repeat' constructor) rfl ?_
     refine XL.on ?_
     refine XA.tk (i := 15) rfl rfl rfl (fun _ _ _ => XL.assign rfl rfl) ?_
     refine XA.done (by kernel_rfl) ?_
     refine Jp.then_normal ?_
     refine SP.ret ?_
     refine Jp.pur1 (.inr rfl) rfl rfl rfl
  exact XO.nil
 exact XO.nil
end Go.Proofs

namespace Go.Proofs
open Go.Bk
theorem c145 (k l : Int) (h0 : 0 ≤ k) (h1 : k ≤ 255) (l0 : 0 ≤ l) (l1 : l ≤ 255) : Pur Tryz.prog 145 [.agg #[.int .u8 k, .int .u8 l]] (.bool (decide (MayC k l ∧ KFal k))) := by
 refine Pcalls (n := 10) Tryz.func145 rfl rfl rfl fun W0 H0 => ?_
 refine SP.r2 ?_
 refine XL.boxA rfl rfl (fun b1 => ?_)
 refine XL.a ?_
 refine XL.n4 ?_
 refine XL.lA ?_
 refine XL.cs rfl (c60 k l h0 h1 l0 l1) rfl (fun hm => ?_) (fun hm => ?_)
 ·refine XL.m ?_
  refine XL.g ?_
  refine XL.f ?_
  refine XL.g ?_
  refine XL.l ?_
  refine XL.g ?_
  refine XL.cs rfl (c161 k h0 h1) rfl (fun hk => ?_) (fun hk => ?_)
  ·refine XL.pick_t rfl rfl rfl ?_
   refine XL.a ?_
   refine XL.n2 ?_
   refine SP.ret ?_
   refine Jp.pur1 (.inr rfl) rfl rfl ?_
   first | exact bt ⟨hm, hk⟩ | exact bf (fun g => hm g.1) | exact bf (fun g => hk g.2)
  ·refine XL.pick_t rfl rfl rfl ?_
   refine XL.a ?_
   refine XL.n2 ?_
   refine SP.ret ?_
   refine Jp.pur1 (.inr rfl) rfl rfl ?_
   first | exact bt ⟨hm, hk⟩ | exact bf (fun g => hm g.1) | exact bf (fun g => hk g.2)
 ·refine XL.m ?_
  refine XL.k ?_
  refine XL.k ?_
  refine XL.k ?_
  refine XL.pick_f rfl rfl rfl ?_
  refine XL.a ?_
  refine XL.n2 ?_
  refine SP.ret ?_
  refine Jp.pur1 (.inr rfl) rfl rfl ?_
  first | exact bt ⟨hm, hk⟩ | exact bf (fun g => hm g.1) | exact bf (fun g => hk g.2)
theorem c78 (k l : Int) (h0 : 0 ≤ k) (h1 : k ≤ 255) (l0 : 0 ≤ l) (l1 : l ≤ 255) : Pur Tryz.prog 78 [.agg #[.int .u8 k, .int .u8 l]] (.bool (decide (MayC k l ∧ KYld k))) := by
 refine Pcalls (n := 10) Tryz.func78 rfl rfl rfl fun W0 H0 => ?_
 refine SP.r2 ?_
 refine XL.boxA rfl rfl (fun b1 => ?_)
 refine XL.a ?_
 refine XL.n4 ?_
 refine XL.lA ?_
 refine XL.cs rfl (c60 k l h0 h1 l0 l1) rfl (fun hm => ?_) (fun hm => ?_)
 ·refine XL.m ?_
  refine XL.g ?_
  refine XL.f ?_
  refine XL.g ?_
  refine XL.l ?_
  refine XL.g ?_
  refine XL.cs rfl (c96 k h0 h1) rfl (fun hk => ?_) (fun hk => ?_)
  ·refine XL.pick_t rfl rfl rfl ?_
   refine XL.a ?_
   refine XL.n2 ?_
   refine SP.ret ?_
   refine Jp.pur1 (.inr rfl) rfl rfl ?_
   first | exact bt ⟨hm, hk⟩ | exact bf (fun g => hm g.1) | exact bf (fun g => hk g.2)
  ·refine XL.pick_t rfl rfl rfl ?_
   refine XL.a ?_
   refine XL.n2 ?_
   refine SP.ret ?_
   refine Jp.pur1 (.inr rfl) rfl rfl ?_
   first | exact bt ⟨hm, hk⟩ | exact bf (fun g => hm g.1) | exact bf (fun g => hk g.2)
 ·refine XL.m ?_
  refine XL.k ?_
  refine XL.k ?_
  refine XL.k ?_
  refine XL.pick_f rfl rfl rfl ?_
  refine XL.a ?_
  refine XL.n2 ?_
  refine SP.ret ?_
  refine Jp.pur1 (.inr rfl) rfl rfl ?_
  first | exact bt ⟨hm, hk⟩ | exact bf (fun g => hm g.1) | exact bf (fun g => hk g.2)
theorem c77 (k l : Int) (h0 : 0 ≤ k) (h1 : k ≤ 255) (l0 : 0 ≤ l) (l1 : l ≤ 255) : Pur Tryz.prog 77 [.agg #[.int .u8 k, .int .u8 l]] (.bool (decide (MayC k l ∧ KMov k))) := by
 refine Pcalls (n := 10) Tryz.func77 rfl rfl rfl fun W0 H0 => ?_
 refine SP.r2 ?_
 refine XL.boxA rfl rfl (fun b1 => ?_)
 refine XL.a ?_
 refine XL.n4 ?_
 refine XL.lA ?_
 refine XL.cs rfl (c60 k l h0 h1 l0 l1) rfl (fun hm => ?_) (fun hm => ?_)
 ·refine XL.m ?_
  refine XL.g ?_
  refine XL.f ?_
  refine XL.g ?_
  refine XL.l ?_
  refine XL.g ?_
  refine XL.cs rfl (c26 k h0 h1) rfl (fun hk => ?_) (fun hk => ?_)
  ·refine XL.pick_t rfl rfl rfl ?_
   refine XL.a ?_
   refine XL.n2 ?_
   refine SP.ret ?_
   refine Jp.pur1 (.inr rfl) rfl rfl ?_
   first | exact bt ⟨hm, hk⟩ | exact bf (fun g => hm g.1) | exact bf (fun g => hk g.2)
  ·refine XL.pick_t rfl rfl rfl ?_
   refine XL.a ?_
   refine XL.n2 ?_
   refine SP.ret ?_
   refine Jp.pur1 (.inr rfl) rfl rfl ?_
   first | exact bt ⟨hm, hk⟩ | exact bf (fun g => hm g.1) | exact bf (fun g => hk g.2)
 ·refine XL.m ?_
  refine XL.k ?_
  refine XL.k ?_
  refine XL.k ?_
  refine XL.pick_f rfl rfl rfl ?_
  refine XL.a ?_
  refine XL.n2 ?_
  refine SP.ret ?_
  refine Jp.pur1 (.inr rfl) rfl rfl ?_
  first | exact bt ⟨hm, hk⟩ | exact bf (fun g => hm g.1) | exact bf (fun g => hk g.2)
theorem c97 (k l : Int) (h0 : 0 ≤ k) (h1 : k ≤ 255) (l0 : 0 ≤ l) (l1 : l ≤ 255) : Pur Tryz.prog 97 [.agg #[.int .u8 k, .int .u8 l]] (.bool (decide (MayC k l ∧ KClr k))) := by
 refine Pcalls (n := 10) Tryz.func97 rfl rfl rfl fun W0 H0 => ?_
 refine SP.r2 ?_
 refine XL.boxA rfl rfl (fun b1 => ?_)
 refine XL.a ?_
 refine XL.n4 ?_
 refine XL.lA ?_
 refine XL.cs rfl (c60 k l h0 h1 l0 l1) rfl (fun hm => ?_) (fun hm => ?_)
 ·refine XL.m ?_
  refine XL.g ?_
  refine XL.f ?_
  refine XL.g ?_
  refine XL.l ?_
  refine XL.g ?_
  refine XL.cs rfl (c61 k h0 h1) rfl (fun hk => ?_) (fun hk => ?_)
  ·refine XL.pick_t rfl rfl rfl ?_
   refine XL.a ?_
   refine XL.n2 ?_
   refine SP.ret ?_
   refine Jp.pur1 (.inr rfl) rfl rfl ?_
   first | exact bt ⟨hm, hk⟩ | exact bf (fun g => hm g.1) | exact bf (fun g => hk g.2)
  ·refine XL.pick_t rfl rfl rfl ?_
   refine XL.a ?_
   refine XL.n2 ?_
   refine SP.ret ?_
   refine Jp.pur1 (.inr rfl) rfl rfl ?_
   first | exact bt ⟨hm, hk⟩ | exact bf (fun g => hm g.1) | exact bf (fun g => hk g.2)
 ·refine XL.m ?_
  refine XL.k ?_
  refine XL.k ?_
  refine XL.k ?_
  refine XL.pick_f rfl rfl rfl ?_
  refine XL.a ?_
  refine XL.n2 ?_
  refine SP.ret ?_
  refine Jp.pur1 (.inr rfl) rfl rfl ?_
  first | exact bt ⟨hm, hk⟩ | exact bf (fun g => hm g.1) | exact bf (fun g => hk g.2)
theorem c148 (k l : Int) : Pur Tryz.prog 148 [.agg #[.int .u8 k, .int .u8 l]] (.bool (decide (k = 13))) := by
 refine Pcalls (n := 6) Tryz.func148 rfl rfl rfl fun W0 H0 => ?_
 refine SP.r2 ?_
 refine XL.boxA rfl rfl (fun b1 => ?_)
 refine XL.a ?_
 refine XL.n4 ?_
 refine XL.f ?_
 refine XL.l ?_
 refine XL.eql_s rfl rfl rfl (fun hh => ?_) (fun hh => ?_)
 ·refine XL.a ?_
  refine XL.n2 ?_
  refine SP.ret ?_
  refine Jp.pur1 (.inr rfl) rfl rfl ?_
  first | exact bt hh | exact bf hh
 ·refine XL.a ?_
  refine XL.n2 ?_
  refine SP.ret ?_
  refine Jp.pur1 (.inr rfl) rfl rfl ?_
  first | exact bt hh | exact bf hh
def sureC (x : C2) : C2 := if MayC x.a x.b then x else ⟨1, 0⟩
theorem c162 (k l : Int) (h0 : 0 ≤ k) (h1 : k ≤ 255) (l0 : 0 ≤ l) (l1 : l ≤ 255) : Pur Tryz.prog 162 [.agg #[.int .u8 k, .int .u8 l]] (.agg #[.int .u8 (sureC ⟨k, l⟩).a, .int .u8 (sureC ⟨k, l⟩).b]) := by
 refine Pcalls (n := 8) Tryz.func162 rfl rfl rfl fun W0 H0 => ?_
 refine SP.r2 ?_
 refine XL.boxA rfl rfl (fun b1 => ?_)
 refine XL.alloc (by rfl) (fun b2 => ?_)
 refine XL.n5 ?_
 refine SP.r2 ?_
 refine XL.lA ?_
 refine XL.cs rfl (c60 k l h0 h1 l0 l1) rfl (fun hm => ?_) (fun hm => ?_)
 ·refine XL.not_t rfl rfl ?_
  refine XL.n2 ?_
  refine SP.f ?_
  refine SP.skip ?_
  refine Jp.n4 ?_
  refine XL.lA ?_
  refine XL.sA ?_
  refine XL.n2 ?_
  refine SP.ret ?_
  refine Jp.purc (.inr rfl) rfl (Res.cellA (by rfl)) ?_
  unfold sureC
  first | (rw [if_pos hm]) | (rw [if_neg hm])
 ·refine XL.not_f rfl rfl ?_
  refine XL.n2 ?_
  refine SP.t ?_
  refine SP.r2 ?_
  refine XL.build (by rfl) (by rfl) ?_
  refine XL.sA ?_
  refine XL.n2 ?_
  refine SP.ret ?_
  refine Jp.then_ret ?_
  refine Jp.purc (.inr rfl) rfl (Res.cellA (by rfl)) ?_
  unfold sureC
  first | (rw [if_pos hm]) | (rw [if_neg hm])
theorem c152 (k l : Int) (h0 : 0 ≤ k) (h1 : k ≤ 255) (l0 : 0 ≤ l) (l1 : l ≤ 255) : Pur Tryz.prog 152 [.agg #[.int .u8 k, .int .u8 l]] (.agg #[.int .u8 (sureC ⟨k, l⟩).a, .int .u8 (sureC ⟨k, l⟩).b]) := by
 refine Pcalls (n := 8) Tryz.func152 rfl rfl rfl fun W0 H0 => ?_
 refine SP.r2 ?_
 refine XL.boxA rfl rfl (fun b1 => ?_)
 refine XL.alloc (by rfl) (fun b2 => ?_)
 refine XL.n5 ?_
 refine SP.r2 ?_
 refine XL.lA ?_
 refine XL.cs rfl (c60 k l h0 h1 l0 l1) rfl (fun hm => ?_) (fun hm => ?_)
 ·refine XL.not_t rfl rfl ?_
  refine XL.n2 ?_
  refine SP.f ?_
  refine SP.skip ?_
  refine Jp.n4 ?_
  refine XL.lA ?_
  refine XL.sA ?_
  refine XL.n2 ?_
  refine SP.ret ?_
  refine Jp.purc (.inr rfl) rfl (Res.cellA (by rfl)) ?_
  unfold sureC
  first | (rw [if_pos hm]) | (rw [if_neg hm])
 ·refine XL.not_f rfl rfl ?_
  refine XL.n2 ?_
  refine SP.t ?_
  refine SP.r2 ?_
  refine XL.build (by rfl) (by rfl) ?_
  refine XL.sA ?_
  refine XL.n2 ?_
  refine SP.ret ?_
  refine Jp.then_ret ?_
  refine Jp.purc (.inr rfl) rfl (Res.cellA (by rfl)) ?_
  unfold sureC
  first | (rw [if_pos hm]) | (rw [if_neg hm])
theorem c49 (k l : Int) (h0 : 0 ≤ k) (h1 : k ≤ 255) (l0 : 0 ≤ l) (l1 : l ≤ 255) : Pur Tryz.prog 49 [.agg #[.int .u8 k, .int .u8 l]] (.bool (decide (MayC k l ∧ k ≠ 1))) := by
 refine Pcalls (n := 10) Tryz.func49 rfl rfl rfl fun W0 H0 => ?_
 refine SP.r2 ?_
 refine XL.boxA rfl rfl (fun b1 => ?_)
 refine XL.a ?_
 refine XL.n4 ?_
 refine XL.lA ?_
 refine XL.cs rfl (c60 k l h0 h1 l0 l1) rfl (fun hm => ?_) (fun hm => ?_)
 ·refine XL.m ?_
  refine XL.g ?_
  refine XL.f ?_
  refine XL.g ?_
  refine XL.l ?_
  refine XL.g ?_
  refine XL.neq_s rfl rfl rfl (fun hk => ?_) (fun hk => ?_)
  ·refine XL.pick_t rfl rfl rfl ?_
   refine XL.a ?_
   refine XL.n2 ?_
   refine SP.ret ?_
   refine Jp.pur1 (.inr rfl) rfl rfl ?_
   first | exact bt ⟨hm, hk⟩ | exact bf (fun g => hm g.1) | exact bf (fun g => hk g.2) | exact bf (fun g => g.2 hk)
  ·refine XL.pick_t rfl rfl rfl ?_
   refine XL.a ?_
   refine XL.n2 ?_
   refine SP.ret ?_
   refine Jp.pur1 (.inr rfl) rfl rfl ?_
   first | exact bt ⟨hm, hk⟩ | exact bf (fun g => hm g.1) | exact bf (fun g => hk g.2) | exact bf (fun g => g.2 hk)
 ·refine XL.m ?_
  refine XL.k ?_
  refine XL.k ?_
  refine XL.k ?_
  refine XL.pick_f rfl rfl rfl ?_
  refine XL.a ?_
  refine XL.n2 ?_
  refine SP.ret ?_
  refine Jp.pur1 (.inr rfl) rfl rfl ?_
  first | exact bt ⟨hm, hk⟩ | exact bf (fun g => hm g.1) | exact bf (fun g => hk g.2) | exact bf (fun g => g.2 hk)
end Go.Proofs

namespace Go.Proofs
open Go.Bk
theorem Chunk_some (m r : Nat) (s : St) (l : List (Pl × Nat)) (p : Pl) {b : Nat} (hg : getM l p = some b) (c : Ch) (hc : c.Ok) (hn : c.ticks.length ≤ 4096) : Tri Tryz.prog 8 [.pointer (some ⟨m, 0, none⟩), .agg #[.int .i64 p.x, .int .i64 p.y, .int .i64 p.z]] [Mb m r s, MpC r l, pt b (cel c.cs 80), TkS c.tv c.ticks] (fun v Γ' => ∃ b' tv', v = .tuple #[.pointer (some ⟨b', 0, none⟩), .bool true] ∧ sca tv' = true ∧ Γ' = [pt b' (cel ({ c with tv := tv' } : Ch).cs 80), Mb m r s, MpC r l, pt b (cel c.cs 80), TkS c.tv c.ticks]) := by
 refine Pcalls (n := 24) Tryz.func8 rfl rfl rfl fun W0 H0 => ?_
 refine SP.r2 ?_
 refine XL.boxA rfl rfl (fun b1 => ?_)
 refine XL.a ?_
 refine XL.a ?_
 refine XL.n5 ?_
 refine SP.r2 ?_
 refine XL.m ?_
 refine XL.cr rfl (c23 m r s) (by repeat' constructor) rfl ?_
 refine XL.not_t rfl rfl ?_
 refine XL.n2 ?_
 refine SP.f ?_
 refine SP.skip ?_
 refine Jp.then_normal ?_
 refine SP.seq ?_
 refine SP.seq ?_
 refine SP.quiet Tryz.fol (by kernel_rfl) ?_
 refine XL.m ?_
 refine XL.nilCheck rfl rfl ?_
 refine XL.f ?_
 refine XL.l ?_
 refine XL.lA ?_
 refine XL.lookup (z := .pointer none) (k := p) (ek := Pl.v) (ev' := pv) (l := l) rfl rfl (by repeat' constructor) (zeroOf (by kernel_rfl)) rfl ?_
 rw [hg]
 refine XL.a ?_
 refine XL.nilq_end ?_
 refine Jp.n4 ?_
 refine XL.m ?_
 refine XL.pnnil_neq rfl rfl ?_
 refine XL.n2 ?_
 refine SP.t ?_
 refine SP.r2 ?_
 refine XL.m ?_
 refine XL.cw rfl (c24 b c hc hn) (by repeat' constructor) rfl ?_
 rintro _ _ ⟨b', tv', rfl, hsv, rfl⟩
 refine XL.app4 ?_
 refine XL.a ?_
 refine XL.a ?_
 refine XL.n2 ?_
 refine SP.ret ?_
 refine Jp.then_ret ?_
 exact Jp.go (Pk.drop (Γ1 := [pt b' (cel ({ c with tv := tv' } : Ch).cs 80), Mb m r s, MpC r l, pt b (cel c.cs 80), TkS c.tv c.ticks]) (by repeat' constructor)) (Jp.end2 (.inr rfl) rfl rfl rfl ⟨b', tv', rfl, hsv, rfl⟩)
theorem Chunk_none (m r : Nat) (s : St) (l : List (Pl × Nat)) (p : Pl) (hg : getM l p = none) (hm : MayS p.x p.y p.z) : Tri Tryz.prog 8 [.pointer (some ⟨m, 0, none⟩), .agg #[.int .i64 p.x, .int .i64 p.y, .int .i64 p.z]] [Mb m r s, MpC r l] (fun v Γ' => ∃ b', v = .tuple #[.pointer (some ⟨b', 0, none⟩), .bool true] ∧ Γ' = [pt b' (cel (landCh p.y).cs 80), Mb m r s, MpC r l]) := by
 refine Pcalls (n := 24) Tryz.func8 rfl rfl rfl fun W0 H0 => ?_
 refine SP.r2 ?_
 refine XL.boxA rfl rfl (fun b1 => ?_)
 refine XL.a ?_
 refine XL.a ?_
 refine XL.n5 ?_
 refine SP.r2 ?_
 refine XL.m ?_
 refine XL.cr rfl (c23 m r s) (by repeat' constructor) rfl ?_
 refine XL.not_t rfl rfl ?_
 refine XL.n2 ?_
 refine SP.f ?_
 refine SP.skip ?_
 refine Jp.then_normal ?_
 refine SP.seq ?_
 refine SP.seq ?_
 refine SP.quiet Tryz.fol (by kernel_rfl) ?_
 refine XL.m ?_
 refine XL.nilCheck rfl rfl ?_
 refine XL.f ?_
 refine XL.l ?_
 refine XL.lA ?_
 refine XL.lookup (z := .pointer none) (k := p) (ek := Pl.v) (ev' := pv) (l := l) rfl rfl (by repeat' constructor) (zeroOf (by kernel_rfl)) rfl ?_
 rw [hg]
 refine XL.a ?_
 refine XL.nilq_end ?_
 refine Jp.n4 ?_
 refine XL.m ?_
 refine XL.pnil_neq rfl rfl ?_
 refine XL.n2 ?_
 refine SP.f ?_
 refine SP.skip ?_
 refine Jp.n4 ?_
 refine XL.lA ?_
 refine XL.cw rfl (c_Chunk_t p.x p.y p.z hm) (Pk.nil _) rfl ?_
 rintro _ _ ⟨b', rfl, rfl⟩
 refine XL.app1 ?_
 refine XL.x ?_
 refine XL.x ?_
 refine XL.a ?_
 refine XL.a ?_
 refine XL.n2 ?_
 refine SP.ret ?_
 exact Jp.go (Pk.drop (Γ1 := [pt b' (cel (landCh p.y).cs 80), Mb m r s, MpC r l]) (by repeat' constructor)) (Jp.end2 (.inr rfl) rfl rfl rfl ⟨b', rfl, rfl⟩)
end Go.Proofs

namespace Go.Proofs
open Go.Bk
end Go.Proofs

namespace Go.Proofs
open Go.Bk
structure Nr where
 self : C2
 s : Nat → C2
 u : Nat → C2
 light : Int
 draw : Int
@[reducible] def Nr.cs (n : Nr) : List Value := [.int .u8 n.self.a, .int .u8 n.self.b, .int .u8 (n.s 0).a, .int .u8 (n.s 0).b, .int .u8 (n.s 1).a, .int .u8 (n.s 1).b, .int .u8 (n.s 2).a, .int .u8 (n.s 2).b, .int .u8 (n.s 3).a, .int .u8 (n.s 3).b, .int .u8 (n.s 4).a, .int .u8 (n.s 4).b, .int .u8 (n.s 5).a, .int .u8 (n.s 5).b, .int .u8 (n.u 0).a, .int .u8 (n.u 0).b, .int .u8 (n.u 1).a, .int .u8 (n.u 1).b, .int .u8 (n.u 2).a, .int .u8 (n.u 2).b, .int .u8 (n.u 3).a, .int .u8 (n.u 3).b, .int .u8 n.light, .int .u64 n.draw]
structure Nr.Ok (n : Nr) : Prop where
 self : C2.rng n.self
 s : ∀ i, i < 6 → C2.rng (n.s i)
 u : ∀ i, i < 4 → C2.rng (n.u i)
 light : 0 ≤ n.light ∧ n.light ≤ 255
 draw : 0 ≤ n.draw ∧ n.draw < 18446744073709551616
theorem lt6 {i : Nat} (h : i < 6) : i = 0 ∨ i = 1 ∨ i = 2 ∨ i = 3 ∨ i = 4 ∨ i = 5 := by omega
theorem lt4 {i : Nat} (h : i < 4) : i = 0 ∨ i = 1 ∨ i = 2 ∨ i = 3 := by omega
theorem Nr.side_at (n : Nr) {i : Nat} (h : i < 6) : SbL n.cs (2 + i * 2) 2 (n.s i).cs := by
 rcases lt6 h with rfl | rfl | rfl | rfl | rfl | rfl <;> exact ⟨Nat.le_of_ble_eq_true rfl, rfl⟩
theorem Nr.under_at (n : Nr) {i : Nat} (h : i < 4) : SbL n.cs (14 + i * 2) 2 (n.u i).cs := by
 rcases lt4 h with rfl | rfl | rfl | rfl <;> exact ⟨Nat.le_of_ble_eq_true rfl, rfl⟩
theorem Nr.side_st (n n' : Nr) {i : Nat} (h : i < 6) (x : C2) (h1 : n'.self = n.self) (h2 : ∀ j, j < 6 → n'.s j = if j = i then x else n.s j) (h3 : ∀ j, j < 4 → n'.u j = n.u j) (h4 : n'.light = n.light) (h5 : n'.draw = n.draw) : StL n.cs (2 + i * 2) x.cs n'.cs := by
 have e0 := h2 0 (by decide); have e1 := h2 1 (by decide); have e2 := h2 2 (by decide); have e3 := h2 3 (by decide); have e4 := h2 4 (by decide); have e5 := h2 5 (by decide)
 have f0 := h3 0 (by decide); have f1 := h3 1 (by decide); have f2 := h3 2 (by decide); have f3 := h3 3 (by decide)
 unfold Nr.cs
 rw [h1, h4, h5, e0, e1, e2, e3, e4, e5, f0, f1, f2, f3]
 rcases lt6 h with rfl | rfl | rfl | rfl | rfl | rfl <;> exact ⟨Nat.le_of_ble_eq_true rfl, rfl⟩
theorem Nr.under_st (n n' : Nr) {i : Nat} (h : i < 4) (x : C2) (h1 : n'.self = n.self) (h2 : ∀ j, j < 6 → n'.s j = n.s j) (h3 : ∀ j, j < 4 → n'.u j = if j = i then x else n.u j) (h4 : n'.light = n.light) (h5 : n'.draw = n.draw) : StL n.cs (14 + i * 2) x.cs n'.cs := by
 have e0 := h2 0 (by decide); have e1 := h2 1 (by decide); have e2 := h2 2 (by decide); have e3 := h2 3 (by decide); have e4 := h2 4 (by decide); have e5 := h2 5 (by decide)
 have f0 := h3 0 (by decide); have f1 := h3 1 (by decide); have f2 := h3 2 (by decide); have f3 := h3 3 (by decide)
 unfold Nr.cs
 rw [h1, h4, h5, e0, e1, e2, e3, e4, e5, f0, f1, f2, f3]
 rcases lt4 h with rfl | rfl | rfl | rfl <;> exact ⟨Nat.le_of_ble_eq_true rfl, rfl⟩
structure Cg where
 dir : Int
 c : C2
@[reducible] def Cg.cs (x : Cg) : List Value := [.int .i64 x.dir, .int .u8 x.c.a, .int .u8 x.c.b]
theorem Cg.len (x : Cg) : x.cs.length = 3 := rfl
theorem Cg.sca (x : Cg) : x.cs.all Bk.sca = true := rfl
@[reducible] def CgS (v : Value) (l : List Cg) : Asn := Sl' 209 3 v l.length (l.flatMap Cg.cs)
def Nr.at (n : Nr) (d : Int) : C2 := if d = 0 then n.self else n.s (d - 1).toNat
def sumD (n : Nr) : List Cg → Int
 | [] => 0
 | c :: l => mv c.c - mv (n.at c.dir) + sumD n l
structure DeedOk (n : Nr) (l : List Cg) (again delta : Int) : Prop where
 dir : ∀ c ∈ l, 0 ≤ c.dir ∧ c.dir ≤ 6 ∧ C2.rng c.c ∧ (0 < c.dir → (n.at c.dir).a ≠ 1)
 nd : l.Pairwise fun a b => a.dir ≠ b.dir
 len : l.length ≤ 4
 sum : sumD n l = delta
 ag : 0 ≤ again ∧ again ≤ 5
 dl : -1 ≤ delta ∧ delta ≤ 1
theorem DeedOk.nil (n : Nr) {again : Int} (h : 0 ≤ again ∧ again ≤ 5) : DeedOk n [] again 0 := ⟨by simp, .nil, by simp, rfl, h, by omega⟩
theorem rng0 : C2.rng ⟨0, 0⟩ := by simp [C2.rng]
theorem sumD_cons (n : Nr) (c : Cg) (l : List Cg) : sumD n (c :: l) = mv c.c - mv (n.at c.dir) + sumD n l := rfl
theorem at0 (n : Nr) : n.at 0 = n.self := rfl
theorem yld_mov {k : Int} (h : KYld k) : ¬ KMov k ∧ k ≠ 1 := by unfold KYld KMov at *; omega
theorem sok_mov {k : Int} (h : KSok k) : ¬ KMov k ∧ k ≠ 1 := by unfold KSok KMov at *; omega
theorem mv0 {x : C2} (h : ¬ KMov x.a) : mv x = 0 := if_neg h
theorem mv1 {x : C2} (h : KMov x.a) : mv x = 1 := if_pos h
theorem nmov0 : mv ⟨0, 0⟩ = 0 := by decide
theorem fall_ok {n : Nr} (hn : n.Ok) (hy : KYld (n.s 5).a) : DeedOk n [⟨6, n.self⟩, ⟨0, ⟨0, 0⟩⟩] 0 0 := by
 have h := yld_mov hy
 refine ⟨fun c hc => ?_, by simp, by simp, ?_, by omega, by omega⟩
 ·simp only [List.mem_cons, List.not_mem_nil, or_false] at hc
  rcases hc with rfl | rfl
  ·exact ⟨show (0 : Int) ≤ 6 by decide, show (6 : Int) ≤ 6 by decide, hn.self, fun _ => h.2⟩
  ·exact ⟨by decide, by decide, rng0, fun h => absurd h (by decide)⟩
 ·rw [sumD_cons, sumD_cons]
  show mv n.self - mv (n.s 5) + (mv ⟨0, 0⟩ - mv n.self + 0) = 0
  rw [mv0 h.1, nmov0]; omega
@[reducible] def DeedR (n : Nr) (v : Value) (Γ' : List Asn) : Prop := ∃ a m c l again delta, v = .agg #[.slice a m c, .int .i64 again, .int .i64 delta] ∧ DeedOk n l again delta ∧ Γ' = [CgS (.slice a m c) l]
def cleanN (n : Nr) : Nr := ⟨sureC n.self, fun i => sureC (n.s i), fun i => sureC (n.u i), n.light, n.draw⟩
def cleanNs (n : Nr) (i j : Nat) : Nr := ⟨sureC n.self, fun k => if k < i then sureC (n.s k) else n.s k, fun k => if k < j then sureC (n.u k) else n.u k, n.light, n.draw⟩
theorem sureC_rng {x : C2} (h : C2.rng x) : C2.rng (sureC x) := by unfold sureC; split; exact h; simp [C2.rng]
theorem cleanN_ok {n : Nr} (h : n.Ok) : (cleanN n).Ok := ⟨sureC_rng h.self, fun i hi => sureC_rng (h.s i hi), fun i hi => sureC_rng (h.u i hi), h.light, h.draw⟩
theorem c146 (a : Option Addr) (m c : Nat) : Pur Tryz.prog 146 [.slice a m c] (.agg #[.slice a m c, .int .i64 0, .int .i64 0]) := by
 refine Pcalls (n := 5) Tryz.func146 rfl rfl rfl fun W0 H0 => ?_
 refine SP.r2 ?_
 refine XL.alloc (by rfl) (fun b1 => ?_)
 refine XL.n4 ?_
 refine XL.m ?_
 refine XL.build (by rfl) (by rfl) ?_
 refine XL.sA ?_
 refine XL.n2 ?_
 refine SP.ret ?_
 refine Jp.purc (.inr rfl) rfl (Res.cellA (by rfl)) rfl
theorem c125 (n : Nr) (hn : n.Ok) : Tri Tryz.prog 125 [.agg n.cs.toArray] [] (DeedR n) := by
 refine Pcalls (n := 21) Tryz.func125 rfl rfl rfl fun W0 H0 => ?_
 refine SP.r2 ?_
 refine XL.boxA rfl rfl (fun b1 => ?_)
 refine XL.alloc (by rfl) (fun b2 => ?_)
 refine XL.n5 ?_
 refine SP.r2 ?_
 refine XL.f ?_
 refine XL.lA ?_
 refine XL.cs rfl (c145 _ _ (hn.self).1 (hn.self).2.1 (hn.self).2.2.1 (hn.self).2.2.2) rfl (fun hf => ?_) (fun hf => ?_)
 ·refine XL.not_t rfl rfl ?_
  refine XL.m ?_
  refine XL.g ?_
  refine XL.f ?_
  refine XL.g ?_
  refine XL.indexArr (r := 12) rfl rfl (by decide) (by decide) rfl rfl ?_
  refine XL.g ?_
  refine XL.lA ?_
  refine XL.g ?_
  refine XL.cs rfl (c78 _ _ (hn.s 5 (by decide)).1 (hn.s 5 (by decide)).2.1 (hn.s 5 (by decide)).2.2.1 (hn.s 5 (by decide)).2.2.2) rfl (fun hy => ?_) (fun hy => ?_)
  ·refine XL.g ?_
   refine XL.not_t rfl rfl ?_
   refine XL.pick_f rfl rfl rfl ?_
   refine XL.n2 ?_
   refine SP.f ?_
   refine SP.skip ?_
   refine Jp.n4 ?_
   refine XL.f ?_
   refine XL.lA ?_
   refine XL.build (by rfl) (by rfl) ?_
   refine XL.build (by rfl) (by rfl) ?_
   refine XL.buildSlice (by rfl) (by rfl) (by rfl) (by decide) rfl (fun b3 => ?_)
   refine XL.cp rfl (c146 _ _ _) rfl ?_
   refine XL.sA ?_
   refine XL.n2 ?_
   refine SP.ret ?_
   refine Jp.lit 2 (k := 3) (b := b3) (by repeat' constructor) rfl ?_
   refine Jp.endcG (.inr rfl) rfl (Res.cellA (by rfl)) (Pk.drop (Γ1 := [CgS (.slice (some ⟨b3, 0, none⟩) 2 2) [⟨6, n.self⟩, ⟨0, ⟨0, 0⟩⟩]]) (by repeat' constructor)) ⟨_, _, _, [⟨6, n.self⟩, ⟨0, ⟨0, 0⟩⟩], _, _, rfl, ?_, rfl⟩
   exact fall_ok hn hy.2
  ·refine XL.g ?_
   refine XL.not_f rfl rfl ?_
   refine XL.pick_f rfl rfl rfl ?_
   refine XL.n2 ?_
   refine SP.t ?_
   refine SP.r2 ?_
   refine XL.build (by rfl) (by rfl) ?_
   refine XL.sA ?_
   refine XL.n2 ?_
   refine SP.ret ?_
   refine Jp.then_ret ?_
   exact Jp.endcG (.inr rfl) rfl (Res.cellA (by rfl)) (fun h _ => star_nilS (E := 209) (k := 3) h (star_nil h)) ⟨none, 0, 0, [], _, _, rfl, DeedOk.nil n (by omega), rfl⟩
 ·refine XL.not_f rfl rfl ?_
  refine XL.m ?_
  refine XL.k ?_
  refine XL.k ?_
  refine XL.k ?_
  refine XL.k ?_
  refine XL.k ?_
  refine XL.pick_t rfl rfl rfl ?_
  refine XL.n2 ?_
  refine SP.t ?_
  refine SP.r2 ?_
  refine XL.build (by rfl) (by rfl) ?_
  refine XL.sA ?_
  refine XL.n2 ?_
  refine SP.ret ?_
  refine Jp.then_ret ?_
  exact Jp.endcG (.inr rfl) rfl (Res.cellA (by rfl)) (fun h _ => star_nilS (E := 209) (k := 3) h (star_nil h)) ⟨none, 0, 0, [], _, _, rfl, DeedOk.nil n (by omega), rfl⟩
end Go.Proofs

namespace Go.Proofs
open Go.Bk
instance : EqT Tryz.prog 204 (Row C2 4) (fun r => r.l.flatMap C2.cs) := EqT.arr (t := 5) Tryz.eq51 Tryz.underlying204 (by kernel_rfl) (by kernel_rfl) (by kernel_rfl)
def zNr : Nr := ⟨⟨0, 0⟩, fun _ => ⟨0, 0⟩, fun _ => ⟨0, 0⟩, 0, 0⟩
theorem cleanNs_s (n : Nr) (i k : Nat) : ∀ j, j < 6 → (cleanNs n (i + 1) k).s j = if j = i then sureC ((cleanNs n i k).s i) else (cleanNs n i k).s j := fun j _ => by
 simp only [cleanNs]
 by_cases h : j = i
 ·subst h; simp
 ·by_cases g : j < i
  ·simp [h, g, show j < i + 1 by omega]
  ·simp [h, g, show ¬ j < i + 1 by omega]
theorem cleanNs_u (n : Nr) (i k : Nat) : ∀ j, j < 4 → (cleanNs n k (i + 1)).u j = if j = i then sureC ((cleanNs n k i).u i) else (cleanNs n k i).u j := fun j _ => by
 simp only [cleanNs]
 by_cases h : j = i
 ·subst h; simp
 ·by_cases g : j < i
  ·simp [h, g, show j < i + 1 by omega]
  ·simp [h, g, show ¬ j < i + 1 by omega]
theorem cleanNs_rs {n : Nr} (hn : n.Ok) (i k j : Nat) (h : j < 6) : C2.rng ((cleanNs n i k).s j) := by
 simp only [cleanNs]; split
 ·exact sureC_rng (hn.s j h)
 ·exact hn.s j h
theorem cleanNs_ru {n : Nr} (hn : n.Ok) (i k j : Nat) (h : j < 4) : C2.rng ((cleanNs n i k).u j) := by
 simp only [cleanNs]; split
 ·exact sureC_rng (hn.u j h)
 ·exact hn.u j h
theorem c147 (n : Nr) (hn : n.Ok) : Pur Tryz.prog 147 [.agg n.cs.toArray] (.agg (cleanN n).cs.toArray) := by
 refine Pcalls (n := 34) Tryz.func147 rfl rfl rfl fun W0 H0 => ?_
 refine SP.r2 ?_
 refine XL.boxA rfl rfl (fun b1 => ?_)
 refine XL.alloc (by rfl) (fun b2 => ?_)
 refine XL.n4 ?_
 refine XL.f ?_
 refine XL.lA ?_
 refine XL.cp rfl (c162 _ _ (hn.self).1 (hn.self).2.1 (hn.self).2.2.1 (hn.self).2.2.2) rfl ?_
 refine XL.f ?_
 refine XL.sA ?_
 refine XL.n5 ?_
 refine SP.r2 ?_
 refine XL.m ?_
 refine XL.n2 ?_
 refine SP.block ?_
 refine SP.loop (X := Nat) (fun i => [(9, .int .i64 (i : Int)), (1, .pointer (some ⟨b1, 0, none⟩)), (2, .pointer (some ⟨b2, 0, none⟩))]) (fun i => [pt b1 (cel (cleanNs n i 0).cs 206), pt b2 (cel zNr.cs 206)]) (fun i => i ≤ 6) (fun i => 6 - i) 0 (by omega) (by repeat' constructor) (Pk.drop (by repeat' constructor)) ?_
 rintro i hi
 refine SP.r2 ?_
 refine XL.lss_s rfl rfl rfl (fun h1 => ?_) (fun h1 => ?_)
 ·refine XL.n5 ?_
  refine SP.t ?_
  refine SP.skip ?_
  refine Jp.then_normal ?_
  refine SP.seq ?_
  refine SP.block ?_
  refine SP.r2 ?_
  refine XL.m ?_
  refine XL.a ?_
  refine XL.n3 ?_
  refine XL.m ?_
  refine XL.m ?_
  refine XL.f ?_
  refine XL.indexArr (r := 2 + i * 2) rfl rfl (by omega) (by omega) (by simp) rfl ?_
  refine XL.loadA (hs := Nr.side_at (cleanNs n i 0) (show i < 6 by omega)) rfl rfl ?_
  refine XL.cp rfl (c162 _ _ (cleanNs_rs hn i 0 i (show i < 6 by omega)).1 (cleanNs_rs hn i 0 i (show i < 6 by omega)).2.1 (cleanNs_rs hn i 0 i (show i < 6 by omega)).2.2.1 (cleanNs_rs hn i 0 i (show i < 6 by omega)).2.2.2) rfl ?_
  refine XL.f ?_
  refine XL.indexArr (r := 2 + i * 2) rfl rfl (by omega) (by omega) (by simp) rfl ?_
  refine XL.storeA (vs := (sureC ((cleanNs n i 0).s i)).cs) (hs := Nr.side_st (cleanNs n i 0) (cleanNs n (i + 1) 0) (show i < 6 by omega) (sureC ((cleanNs n i 0).s i)) rfl (cleanNs_s n i 0) (fun j _ => rfl) rfl rfl) rfl rfl rfl rfl ?_
  refine XL.nil ?_
  refine Jp.block_normal ?_
  refine Jp.then_normal ?_
  refine SP.region ?_
  refine XL.add_i64 rfl rfl (by omega) (by omega) rfl ?_
  refine XL.m ?_
  refine XL.nil ?_
  refine Jp.rd (i + 1) (by omega) (by omega)
 ·refine XL.n5 ?_
  refine SP.f ?_
  refine SP.exit ?_
  refine Jp.then_exit ?_
  refine Jp.then_exit ?_
  refine Jp.block_here ?_
  refine Jp.then_normal ?_
  refine SP.seq ?_
  refine SP.r2 ?_
  refine XL.m ?_
  refine XL.n2 ?_
  refine SP.block ?_
  obtain rfl : i = 6 := by omega
  refine SP.loop (X := Nat) (fun i => [(21, .int .i64 (i : Int)), (1, .pointer (some ⟨b1, 0, none⟩)), (2, .pointer (some ⟨b2, 0, none⟩))]) (fun i => [pt b1 (cel (cleanNs n 6 i).cs 206), pt b2 (cel zNr.cs 206)]) (fun i => i ≤ 4) (fun i => 4 - i) 0 (by omega) (by repeat' constructor) (Pk.drop (by repeat' constructor)) ?_
  rintro i hi
  refine SP.r2 ?_
  refine XL.lss_s rfl rfl rfl (fun h2 => ?_) (fun h2 => ?_)
  ·refine XL.n5 ?_
   refine SP.t ?_
   refine SP.skip ?_
   refine Jp.then_normal ?_
   refine SP.seq ?_
   refine SP.block ?_
   refine SP.r2 ?_
   refine XL.m ?_
   refine XL.a ?_
   refine XL.n3 ?_
   refine XL.m ?_
   refine XL.m ?_
   refine XL.f ?_
   refine XL.indexArr (r := 14 + i * 2) rfl rfl (by omega) (by omega) (by simp) rfl ?_
   refine XL.loadA (hs := Nr.under_at (cleanNs n 6 i) (show i < 4 by omega)) rfl rfl ?_
   refine XL.cp rfl (c162 _ _ (cleanNs_ru hn 6 i i (show i < 4 by omega)).1 (cleanNs_ru hn 6 i i (show i < 4 by omega)).2.1 (cleanNs_ru hn 6 i i (show i < 4 by omega)).2.2.1 (cleanNs_ru hn 6 i i (show i < 4 by omega)).2.2.2) rfl ?_
   refine XL.f ?_
   refine XL.indexArr (r := 14 + i * 2) rfl rfl (by omega) (by omega) (by simp) rfl ?_
   refine XL.storeA (vs := (sureC ((cleanNs n 6 i).u i)).cs) (hs := Nr.under_st (cleanNs n 6 i) (cleanNs n 6 (i + 1)) (show i < 4 by omega) (sureC ((cleanNs n 6 i).u i)) rfl (fun j _ => rfl) (cleanNs_u n i 6) rfl rfl) rfl rfl rfl rfl ?_
   refine XL.nil ?_
   refine Jp.block_normal ?_
   refine Jp.then_normal ?_
   refine SP.region ?_
   refine XL.add_i64 rfl rfl (by omega) (by omega) rfl ?_
   refine XL.m ?_
   refine XL.nil ?_
   refine Jp.rd (i + 1) (by omega) (by omega)
  ·refine XL.n5 ?_
   refine SP.f ?_
   refine SP.exit ?_
   refine Jp.then_exit ?_
   refine Jp.then_exit ?_
   refine Jp.block_here ?_
   refine Jp.n4 ?_
   refine XL.lA ?_
   refine XL.sA ?_
   refine XL.n2 ?_
   refine SP.ret ?_
   obtain rfl : i = 4 := by omega
   refine Jp.purc (.inr rfl) rfl (Res.cellA (by rfl)) rfl
theorem c150 (n : Nr) (hn : n.Ok) : Tri Tryz.prog 150 [.agg n.cs.toArray] [] (fun v Γ' => ∃ k b, 0 ≤ k ∧ k ≤ 7 ∧ v = .tuple #[.int .u8 k, .bool b] ∧ Γ' = []) := by
 refine Pcalls (n := 53) Tryz.func150 rfl rfl rfl fun W0 H0 => ?_
 have hc0 := cleanN_ok hn
 refine SP.r2 ?_
 refine XL.boxA rfl rfl (fun b1 => ?_)
 refine XL.a ?_
 refine XL.a ?_
 refine XL.n4 ?_
 refine XL.lA ?_
 refine XL.cp rfl (c147 n hn) rfl ?_
 refine XL.sA ?_
 refine XL.n5 ?_
 refine SP.r2 ?_
 refine XL.f ?_
 refine XL.indexArr (r := 10) rfl rfl (by decide) (by decide) rfl rfl ?_
 refine XL.lA ?_
 refine XL.cs rfl (c148 _ _) rfl (fun hw => ?_) (fun hw => ?_)
 ·refine XL.n2 ?_
  refine SP.t ?_
  refine SP.r2 ?_
  refine XL.a ?_
  refine XL.a ?_
  refine XL.n2 ?_
  refine SP.ret ?_
  refine Jp.then_ret ?_
  first | exact Jp.go (fun h _ => star_nil h) (Jp.end2 (.inr rfl) rfl rfl rfl ⟨_, _, by omega, by omega, rfl, rfl⟩)
 ·refine XL.n2 ?_
  refine SP.f ?_
  refine SP.skip ?_
  refine Jp.then_normal ?_
  refine SP.seq ?_
  refine SP.r2 ?_
  refine XL.f ?_
  refine XL.lA ?_
  refine XL.build (by rfl) (by rfl) ?_
  refine XL.eqlT (⟨[(cleanN n).u 0, (cleanN n).u 1, (cleanN n).u 2, (cleanN n).u 3], rfl⟩ : Row C2 4) (⟨[⟨0, 0⟩, ⟨0, 0⟩, ⟨0, 0⟩, ⟨0, 0⟩], rfl⟩ : Row C2 4) (by rfl) (by rfl) rfl (fun he => ?_) (fun he => ?_)
  ·refine XL.n2 ?_
   refine SP.t ?_
   refine SP.r2 ?_
   refine XL.a ?_
   refine XL.a ?_
   refine XL.n2 ?_
   refine SP.ret ?_
   refine Jp.then_ret ?_
   first | exact Jp.go (fun h _ => star_nil h) (Jp.end2 (.inr rfl) rfl rfl rfl ⟨_, _, by omega, by omega, rfl, rfl⟩)
  ·refine XL.n2 ?_
   refine SP.f ?_
   refine SP.skip ?_
   refine Jp.n4 ?_
   refine XL.a ?_
   refine XL.n5 ?_
   refine SP.r2 ?_
   refine XL.m ?_
   refine XL.n2 ?_
   refine SP.block ?_
   refine SP.loop (X := Nat × Int) (fun p => [(16, .int .i64 (p.1 : Int)), (4, .int .u8 p.2), (1, .pointer (some ⟨b1, 0, none⟩))]) (fun p => [pt b1 (cel (cleanN n).cs 206)]) (fun p => p.1 ≤ 4 ∧ 0 ≤ p.2 ∧ p.2 ≤ 7) (fun p => 4 - p.1) (0, 7) ⟨Nat.zero_le _, by decide, by decide⟩ (by repeat' constructor) (Pk.drop (by repeat' constructor)) ?_
   rintro ⟨i, l⟩ ⟨hi, hl0, hl7⟩
   dsimp only at *
   refine SP.r2 ?_
   refine XL.lss_s rfl rfl rfl (fun hc => ?_) (fun hc => ?_)
   ·have hrs := hc0.s i (show i < 6 by omega)
    have hru := hc0.u i (show i < 4 by omega)
    unfold C2.rng at hrs
    refine XL.n5 ?_
    refine SP.t ?_
    refine SP.skip ?_
    refine Jp.then_normal ?_
    refine SP.seq ?_
    refine SP.block ?_
    refine SP.r2 ?_
    refine XL.m ?_
    refine XL.a ?_
    refine XL.n4 ?_
    refine XL.m ?_
    refine XL.f ?_
    refine XL.indexArr (r := 2 + i * 2) rfl rfl (by omega) (by omega) (by simp) rfl ?_
    refine XL.loadA (hs := Nr.side_at (cleanN n) (show i < 6 by omega)) rfl rfl ?_
    refine XL.cs rfl (c148 _ _) rfl (fun h1 => ?_) (fun h1 => ?_)
    ·refine XL.m ?_
     refine XL.g ?_
     refine XL.m ?_
     refine XL.g ?_
     refine XL.f ?_
     refine XL.g ?_
     refine XL.indexArr (r := 14 + i * 2) rfl rfl (by omega) (by omega) (by simp) rfl ?_
     refine XL.g ?_
     refine XL.loadA (hs := Nr.under_at (cleanN n) (show i < 4 by omega)) rfl rfl ?_
     refine XL.g ?_
     refine XL.cs rfl (c148 _ _) rfl (fun h2 => ?_) (fun h2 => ?_)
     ·refine XL.g ?_
      refine XL.not_t rfl rfl ?_
      refine XL.pick_t rfl rfl rfl ?_
      refine XL.m ?_
      refine XL.k ?_
      refine XL.k ?_
      refine XL.k ?_
      refine XL.k ?_
      refine XL.k ?_
      refine XL.k ?_
      refine XL.k ?_
      refine XL.pick_f rfl rfl rfl ?_
      refine XL.n2 ?_
      refine SP.f ?_
      refine SP.skip ?_
      refine Jp.block_normal ?_
      refine Jp.then_normal ?_
      refine SP.region ?_
      refine XL.add_i64 rfl rfl (by omega) (by omega) rfl ?_
      refine XL.m ?_
      refine XL.nil ?_
      refine Jp.rd (i + 1, l) ⟨by show i + 1 ≤ 4; omega, hl0, hl7⟩ (by show 4 - (i + 1) < 4 - i; omega)
     ·refine XL.g ?_
      refine XL.not_f rfl rfl ?_
      refine XL.pick_t rfl rfl rfl ?_
      refine XL.m ?_
      refine XL.g ?_
      refine XL.m ?_
      refine XL.g ?_
      refine XL.f ?_
      refine XL.g ?_
      refine XL.indexArr (r := 14 + i * 2) rfl rfl (by omega) (by omega) (by simp) rfl ?_
      refine XL.g ?_
      refine XL.f ?_
      refine XL.g ?_
      refine XL.load (hv := GtL.sub (j := 0) (Nr.under_at (cleanN n) (show i < 4 by omega)) rfl) rfl rfl ?_
      refine XL.g ?_
      refine XL.cs rfl (c151 _ hru.1 hru.2.1) rfl (fun h3 => ?_) (fun h3 => ?_)
      ·refine XL.g ?_
       refine XL.not_t rfl rfl ?_
       refine XL.pick_t rfl rfl rfl ?_
       refine XL.n2 ?_
       refine SP.f ?_
       refine SP.skip ?_
       refine Jp.block_normal ?_
       refine Jp.then_normal ?_
       refine SP.region ?_
       refine XL.add_i64 rfl rfl (by omega) (by omega) rfl ?_
       refine XL.m ?_
       refine XL.nil ?_
       refine Jp.rd (i + 1, l) ⟨by show i + 1 ≤ 4; omega, hl0, hl7⟩ (by show 4 - (i + 1) < 4 - i; omega)
      ·refine XL.g ?_
       refine XL.not_f rfl rfl ?_
       refine XL.pick_t rfl rfl rfl ?_
       refine XL.n2 ?_
       refine SP.t ?_
       refine SP.region ?_
       refine XL.m ?_
       refine XL.m ?_
       refine XL.f ?_
       refine XL.indexArr (r := 2 + i * 2) rfl rfl (by omega) (by omega) (by simp) rfl ?_
       refine XL.f ?_
       refine XL.load (hv := GtL.sub (j := 1) (Nr.side_at (cleanN n) (show i < 6 by omega)) rfl) rfl rfl ?_
       obtain ⟨l2, hl2⟩ : ∃ l2, (if ((cleanN n).s i).b < l then ((cleanN n).s i).b else l) = l2 := ⟨_, rfl⟩
       refine XL.min2 rfl rfl hl2 rfl ?_
       have hl3 : 0 ≤ l2 ∧ l2 ≤ 7 := by rw [← hl2]; split <;> omega
       refine XL.a ?_
       refine XL.nil ?_
       refine Jp.block_normal ?_
       refine Jp.then_normal ?_
       refine SP.region ?_
       refine XL.add_i64 rfl rfl (by omega) (by omega) rfl ?_
       refine XL.m ?_
       refine XL.nil ?_
       refine Jp.rd (i + 1, l2) ⟨by show i + 1 ≤ 4; omega, by show 0 ≤ l2; omega, by show l2 ≤ 7; omega⟩ (by show 4 - (i + 1) < 4 - i; omega)
    ·refine XL.m ?_
     refine XL.k ?_
     refine XL.k ?_
     refine XL.k ?_
     refine XL.k ?_
     refine XL.k ?_
     refine XL.k ?_
     refine XL.pick_f rfl rfl rfl ?_
     refine XL.m ?_
     refine XL.k ?_
     refine XL.k ?_
     refine XL.k ?_
     refine XL.k ?_
     refine XL.k ?_
     refine XL.k ?_
     refine XL.k ?_
     refine XL.pick_f rfl rfl rfl ?_
     refine XL.n2 ?_
     refine SP.f ?_
     refine SP.skip ?_
     refine Jp.block_normal ?_
     refine Jp.then_normal ?_
     refine SP.region ?_
     refine XL.add_i64 rfl rfl (by omega) (by omega) rfl ?_
     refine XL.m ?_
     refine XL.nil ?_
     refine Jp.rd (i + 1, l) ⟨by show i + 1 ≤ 4; omega, hl0, hl7⟩ (by show 4 - (i + 1) < 4 - i; omega)
   ·refine XL.n5 ?_
    refine SP.f ?_
    refine SP.exit ?_
    refine Jp.then_exit ?_
    refine Jp.then_exit ?_
    refine Jp.block_here ?_
    refine Jp.then_normal ?_
    refine SP.seq ?_
    refine SP.r2 ?_
    refine XL.m ?_
    refine XL.eql_s rfl rfl rfl (fun hm => ?_) (fun hm => ?_)
    ·refine XL.n2 ?_
     refine SP.t ?_
     refine SP.r2 ?_
     refine XL.a ?_
     refine XL.a ?_
     refine XL.n2 ?_
     refine SP.ret ?_
     refine Jp.then_ret ?_
     first | exact Jp.go (fun h _ => star_nil h) (Jp.end2 (.inr rfl) rfl rfl rfl ⟨_, _, by omega, by omega, rfl, rfl⟩)
    ·refine XL.n2 ?_
     refine SP.f ?_
     refine SP.skip ?_
     refine Jp.n4 ?_
     refine XL.m ?_
     refine XL.add_u8 rfl rfl (by omega) (by omega) rfl ?_
     refine XL.a ?_
     refine XL.a ?_
     refine XL.n2 ?_
     refine SP.ret ?_
     first | exact Jp.go (fun h _ => star_nil h) (Jp.end2 (.inr rfl) rfl rfl rfl ⟨_, _, by omega, by omega, rfl, rfl⟩)
end Go.Proofs

namespace Go.Proofs
open Go.Bk
theorem sure_is {x : C2} {k : Int} (h : (sureC x).a = k) (hk : k ≠ 1) : sureC x = x := by
 unfold sureC at h ⊢
 split
 ·rfl
 ·rename_i hm; rw [if_neg hm] at h; exact absurd h.symm hk
theorem sure_sok {x : C2} (h : KSok (sureC x).a) : KSok x.a := by
 have := sure_is (x := x) rfl (sok_mov h).2
 rwa [this] at h
theorem sure_13 {x : C2} (h : (sureC x).a = 13) : x.a = 13 := by
 have := sure_is h (by decide)
 rwa [this] at h
theorem DeedOk.self {n : Nr} {c : C2} (hc : C2.rng c) (h : mv n.self = mv c) : DeedOk n [⟨0, c⟩] 0 0 := by
 refine ⟨fun x hx => ?_, by simp, by simp, ?_, by omega, by omega⟩
 ·simp only [List.mem_cons, List.not_mem_nil, or_false] at hx
  subst hx; exact ⟨show (0 : Int) ≤ 0 by decide, show (0 : Int) ≤ 6 by decide, hc, fun h => absurd h (show ¬ (0 : Int) < 0 by decide)⟩
 ·show mv c - mv n.self + 0 = 0
  omega
theorem DeedOk.side {n : Nr} {d : Int} {c : C2} (h0 : 1 ≤ d) (h1 : d ≤ 6) (hc : C2.rng c) (h : (n.at d).a ≠ 1) {dl ag : Int} (hd : mv c - mv (n.at d) = dl) (ha : 0 ≤ ag ∧ ag ≤ 5) (hdl : -1 ≤ dl ∧ dl ≤ 1) : DeedOk n [⟨d, c⟩] ag dl := by
 refine ⟨fun x hx => ?_, by simp, by simp, ?_, ha, hdl⟩
 ·simp only [List.mem_cons, List.not_mem_nil, or_false] at hx
  subst hx; exact ⟨show (0 : Int) ≤ d by omega, h1, hc, fun _ => h⟩
 ·show mv c - mv (n.at d) + 0 = dl
  omega
structure FlowOk (n : Nr) (w : Int) (l : List Cg) (i : Nat) : Prop where
 dir : ∀ c ∈ l, 1 ≤ c.dir ∧ c.dir ≤ i ∧ c.c = ⟨13, w⟩ ∧ KSok (n.at c.dir).a
 nd : l.Pairwise fun a b => a.dir ≠ b.dir
 len : l.length ≤ i
theorem FlowOk.deed {n : Nr} {w : Int} {l : List Cg} (h : FlowOk n w l 4) (hw : 0 ≤ w ∧ w ≤ 255) : DeedOk n l 0 0 := by
 refine ⟨fun c hc => ?_, h.nd, h.len, ?_, by omega, by omega⟩
 ·obtain ⟨h1, h2, h3, h4⟩ := h.dir c hc
  refine ⟨by omega, by omega, by rw [h3]; simp [C2.rng]; omega, fun _ => (sok_mov h4).2⟩
 ·have : ∀ m : List Cg, (∀ c ∈ m, c.c = ⟨13, w⟩ ∧ KSok (n.at c.dir).a) → sumD n m = 0 := by
   intro m
   induction m with
   | nil => intro _; rfl
   | cons c m ih =>
    intro hm
    obtain ⟨h1, h2⟩ := hm c (by simp)
    rw [sumD_cons, ih fun c hc => hm c (by simp [hc]), mv0 (sok_mov h2).1, h1, mv0 (show ¬ KMov 13 by decide)]; decide
  exact this l fun c hc => ⟨(h.dir c hc).2.2.1, (h.dir c hc).2.2.2⟩
theorem FlowOk.keep {n : Nr} {w : Int} {l : List Cg} {i : Nat} (h : FlowOk n w l i) : FlowOk n w l (i + 1) := ⟨fun c hc => by
 obtain ⟨h1, h2, h3⟩ := h.dir c hc
 exact ⟨h1, by omega, h3⟩, h.nd, by have := h.len; omega⟩
theorem FlowOk.more {n : Nr} {w : Int} {l : List Cg} {i : Nat} (h : FlowOk n w l i) (hs : KSok (n.s i).a) : FlowOk n w (l ++ [⟨1 + (i : Int), ⟨13, w⟩⟩]) (i + 1) := by
 have hat : n.at (1 + (i : Int)) = n.s i := by
  unfold Nr.at; rw [if_neg (by omega)]; congr 1; omega
 refine ⟨fun c hc => ?_, ?_, by have := h.len; simp; omega⟩
 ·rcases List.mem_append.1 hc with hc | hc
  ·exact h.keep.dir c hc
  ·simp only [List.mem_cons, List.not_mem_nil, or_false] at hc
   subst hc; exact ⟨by show 1 ≤ 1 + (i : Int); omega, by show 1 + (i : Int) ≤ _; omega, rfl, by rw [hat]; exact hs⟩
 ·rw [List.pairwise_append]
  refine ⟨h.nd, by simp, fun a ha b hb => ?_⟩
  simp only [List.mem_cons, List.not_mem_nil, or_false] at hb
  subst hb
  have := (h.dir a ha).2.1
  show a.dir ≠ 1 + (i : Int)
  omega
theorem c149 (b : Nat) (a : Option Addr) (m c : Nat) (l : List Cg) (hl : l.length < 10) (d : Int) (x : C2) : Tri Tryz.prog 149 [.int .i64 d, .agg #[.int .u8 x.a, .int .u8 x.b], .pointer (some ⟨b, 0, none⟩)] [pt b (cel [.slice a m c, .int .i64 0, .int .i64 0] 202), CgS (.slice a m c) l] (fun v Γ' => v = .tuple #[] ∧ ∃ a' m' c', Γ' = [pt b (cel [.slice a' m' c', .int .i64 0, .int .i64 0] 202), CgS (.slice a' m' c') (l ++ [⟨d, x⟩])]) := by
 refine Pcalls (n := 13) Tryz.func149 rfl rfl rfl fun W0 H0 => ?_
 refine SP.r2 ?_
 refine XL.boxA rfl rfl (fun b1 => ?_)
 refine XL.n3 ?_
 refine XL.f ?_
 refine XL.l ?_
 refine XL.m ?_
 refine XL.lA ?_
 refine XL.build (by rfl) (by rfl) ?_
 refine XL.buildSlice (by rfl) (by rfl) (by rfl) (by decide) rfl (fun b3 => ?_)
 refine XL.append (k := 3) (z := [.int .i64 0, .int .u8 0, .int .u8 0]) (bt := 16) (xs := l.flatMap Cg.cs) (ys := Cg.cs ⟨d, x⟩) (m := l.length) (m2 := 1) rfl rfl ⟨_, Tryz.underlying200⟩ (by repeat' constructor) rfl rfl rfl (by omega) rfl rfl (fun v2 => ?_)
 refine XL.know (Rm.know (Rm.here _ _) (fun _ hq => Sl'.len hq)) ?_
 rintro ⟨a', c', rfl, _⟩
 refine XL.f ?_
 refine XL.store (by rfl) (by rfl) (by rfl) ?_
 refine XL.nil ?_
 exact Jp.go (fun h s => by rw [show CgS (.slice a' (l.length + 1) c') (l ++ [⟨d, x⟩]) = Sl' 209 3 (.slice a' (l.length + 1) c') (l.length + 1) (l.flatMap Cg.cs ++ Cg.cs ⟨d, x⟩) by unfold CgS; simp]; exact Pk.drop (Γ1 := [pt b (cel [.slice a' (l.length + 1) c', .int .i64 0, .int .i64 0] 202), Sl' 209 3 (.slice a' (l.length + 1) c') (l.length + 1) (l.flatMap Cg.cs ++ Cg.cs ⟨d, x⟩)]) (by repeat' constructor) h s) (Jp.end0 (.inl rfl) rfl ⟨rfl, a', _, c', rfl⟩)
theorem flow_deed {n : Nr} (hn : n.Ok) {w : Int} {l : List Cg} (h : FlowOk (cleanN n) w l 4) (hw : 0 ≤ w ∧ w ≤ 255) : DeedOk n l 0 0 := by
 refine FlowOk.deed (w := w) ⟨fun c hc => ?_, h.nd, h.len⟩ hw
 obtain ⟨h1, h2, h3, h4⟩ := h.dir c hc
 refine ⟨h1, h2, h3, ?_⟩
 have : (cleanN n).at c.dir = sureC (n.at c.dir) := by unfold Nr.at; rw [if_neg (by omega), if_neg (by omega)]; rfl
 rw [this] at h4; exact sure_sok h4
theorem c126 (n : Nr) (hn : n.Ok) : Tri Tryz.prog 126 [.agg n.cs.toArray] [] (DeedR n) := by
 refine Pcalls (n := 84) Tryz.func126 rfl rfl rfl fun W0 H0 => ?_
 have hc0 := cleanN_ok hn
 have hrs := hc0.self
 unfold C2.rng at hrs
 refine SP.r2 ?_
 refine XL.boxA rfl rfl (fun b1 => ?_)
 refine XL.alloc (by rfl) (fun b2 => ?_)
 refine XL.n4 ?_
 refine XL.lA ?_
 refine XL.cp rfl (c147 n hn) rfl ?_
 refine XL.sA ?_
 refine XL.n5 ?_
 refine SP.r2 ?_
 refine XL.f ?_
 refine XL.lA ?_
 refine XL.cs rfl (c148 _ _) rfl (fun hw => ?_) (fun hw => ?_)
 ·refine XL.not_t rfl rfl ?_
  refine XL.n2 ?_
  refine SP.f ?_
  refine SP.skip ?_
  refine Jp.n4 ?_
  refine XL.alloc (by rfl) (fun b3 => ?_)
  refine XL.n4 ?_
  refine XL.makeFunc (l1 := []) (l2 := [.tmp 3]) rfl rfl rfl ?_
  refine XL.a ?_
  refine XL.n4 ?_
  refine XL.lA ?_
  refine XL.cw rfl (c150 (cleanN n) hc0) (Pk.nil _) rfl ?_
  rintro _ _ ⟨wk, wb, hw0, hw7, rfl, rfl⟩
  refine XL.app0 ?_
  rcases wb with _ | _
  ·refine XL.m ?_
   refine XL.x ?_
   refine XL.x ?_
   refine XL.a ?_
   refine XL.a ?_
   refine XL.n4 ?_
   refine XL.f ?_
   refine XL.indexArr (r := 12) rfl rfl (by decide) (by decide) rfl rfl ?_
   refine XL.lA ?_
   refine XL.alloc (by rfl) (fun b4 => ?_)
   refine XL.sA ?_
   refine XL.n5 ?_
   refine SP.r2 ?_
   refine XL.f ?_
   refine XL.f ?_
   refine XL.l ?_
   refine XL.a ?_
   refine XL.n2 ?_
   refine SP.block ?_
   refine SP.r2 ?_
   refine XL.m ?_
   refine XL.gtr_s rfl rfl rfl (fun g1 => ?_) (fun g1 => ?_)
   ·refine XL.m ?_
    refine XL.g ?_
    refine XL.m ?_
    refine XL.g ?_
    refine XL.not_f rfl rfl ?_
    refine XL.pick_t rfl rfl rfl ?_
    refine XL.a ?_
    refine XL.n2 ?_
    refine SP.t ?_
    refine SP.region ?_
    refine XL.m ?_
    refine XL.build (by rfl) (by rfl) ?_
    refine XL.weaken (star_nilS (E := 209) (k := 3)) ?_
    refine XL.vw (v1 := []) (v2 := [.pointer (some ⟨b3, 0, none⟩)]) rfl rfl (c149 b3 none 0 0 [] (by first | decide | omega) (0) (⟨0, 0⟩)) (by repeat' constructor) rfl ?_
    rintro _ _ ⟨rfl, a', m', c', rfl⟩
    refine XL.app2 ?_
    refine XL.nil ?_
    refine Jp.block_normal ?_
    refine Jp.n4 ?_
    refine XL.lA ?_
    refine XL.sA ?_
    refine XL.n2 ?_
    refine SP.ret ?_
    exact Jp.endcG (.inr rfl) rfl (Res.cellA (by rfl)) (Pk.drop (Γ1 := [CgS (.slice a' m' c') ([⟨0, ⟨0, 0⟩⟩])]) (by repeat' constructor)) ⟨_, _, _, [⟨0, ⟨0, 0⟩⟩], _, _, rfl, DeedOk.self rng0 (by rw [nmov0, mv0 (x := n.self) (by rw [sure_13 hw]; decide)]), rfl⟩
   ·refine XL.m ?_
    refine XL.k ?_
    refine XL.k ?_
    refine XL.pick_f rfl rfl rfl ?_
    refine XL.a ?_
    refine XL.n2 ?_
    refine SP.f ?_
    refine SP.r2 ?_
    refine XL.m ?_
    refine XL.gtr_s rfl rfl rfl (fun g2 => ?_) (fun g2 => ?_)
    ·refine XL.m ?_
     refine XL.g ?_
     refine XL.m ?_
     refine XL.g ?_
     refine XL.m ?_
     refine XL.g ?_
     refine XL.neq_s rfl rfl rfl (fun g3 => ?_) (fun g3 => ?_)
     ·refine XL.pick_t rfl rfl rfl ?_
      refine XL.a ?_
      refine XL.n2 ?_
      refine SP.t ?_
      refine SP.region ?_
      refine XL.m ?_
      refine XL.m ?_
      refine XL.build (by rfl) (by rfl) ?_
      refine XL.weaken (star_nilS (E := 209) (k := 3)) ?_
      refine XL.vw (v1 := []) (v2 := [.pointer (some ⟨b3, 0, none⟩)]) rfl rfl (c149 b3 none 0 0 [] (by first | decide | omega) (0) (⟨13, wk⟩)) (by repeat' constructor) rfl ?_
      rintro _ _ ⟨rfl, a', m', c', rfl⟩
      refine XL.app2 ?_
      refine XL.nil ?_
      refine Jp.block_normal ?_
      refine Jp.n4 ?_
      refine XL.lA ?_
      refine XL.sA ?_
      refine XL.n2 ?_
      refine SP.ret ?_
      exact Jp.endcG (.inr rfl) rfl (Res.cellA (by rfl)) (Pk.drop (Γ1 := [CgS (.slice a' m' c') ([⟨0, ⟨13, wk⟩⟩])]) (by repeat' constructor)) ⟨_, _, _, [⟨0, ⟨13, wk⟩⟩], _, _, rfl, DeedOk.self (by simp [C2.rng]; omega) (by rw [mv0 (x := n.self) (by rw [sure_13 hw]; decide), mv0 (x := ⟨13, wk⟩) (show ¬ KMov 13 by decide)]), rfl⟩
     ·refine XL.pick_t rfl rfl rfl ?_
      refine XL.a ?_
      refine XL.n2 ?_
      refine SP.f ?_
      refine SP.r2 ?_
      refine XL.f ?_
      refine XL.l ?_
      refine XL.cs rfl (c151 _ (hc0.s 5 (by decide)).1 (hc0.s 5 (by decide)).2.1) rfl (fun g4 => ?_) (fun g4 => ?_)
      ·refine XL.a ?_
       refine XL.n2 ?_
       refine SP.t ?_
       refine SP.region ?_
       refine XL.m ?_
       refine XL.build (by rfl) (by rfl) ?_
       refine XL.weaken (star_nilS (E := 209) (k := 3)) ?_
       refine XL.vw (v1 := []) (v2 := [.pointer (some ⟨b3, 0, none⟩)]) rfl rfl (c149 b3 none 0 0 [] (by first | decide | omega) (6) (⟨13, 1⟩)) (by repeat' constructor) rfl ?_
       rintro _ _ ⟨rfl, a', m', c', rfl⟩
       refine XL.app2 ?_
       refine XL.nil ?_
       refine Jp.block_normal ?_
       refine Jp.n4 ?_
       refine XL.lA ?_
       refine XL.sA ?_
       refine XL.n2 ?_
       refine SP.ret ?_
       exact Jp.endcG (.inr rfl) rfl (Res.cellA (by rfl)) (Pk.drop (Γ1 := [CgS (.slice a' m' c') ([⟨6, ⟨13, 1⟩⟩])]) (by repeat' constructor)) ⟨_, _, _, [⟨6, ⟨13, 1⟩⟩], _, _, rfl, DeedOk.side (n := n) (d := 6) (by decide) (by decide) (by simp [C2.rng]) (sok_mov (sure_sok g4)).2 (by show mv ⟨13, 1⟩ - mv (n.s 5) = 0; rw [mv0 (sok_mov (sure_sok g4)).1]; decide) (by omega) (by omega), rfl⟩
      ·refine XL.a ?_
       refine XL.n2 ?_
       refine SP.f ?_
       refine SP.r2 ?_
       refine XL.lA ?_
       refine XL.cs rfl (c148 _ _) rfl (fun g5 => ?_) (fun g5 => ?_)
       ·refine XL.not_t rfl rfl ?_
        refine XL.m ?_
        refine XL.k ?_
        refine XL.k ?_
        refine XL.pick_f rfl rfl rfl ?_
        refine XL.a ?_
        refine XL.n2 ?_
        refine SP.f ?_
        refine SP.skip ?_
        refine Jp.block_normal ?_
        refine Jp.n4 ?_
        refine XL.lA ?_
        refine XL.sA ?_
        refine XL.n2 ?_
        refine SP.ret ?_
        exact Jp.endcG (.inr rfl) rfl (Res.cellA (by rfl)) (fun h _ => star_nilS (E := 209) (k := 3) h (star_nil h)) ⟨none, 0, 0, [], _, _, rfl, DeedOk.nil n (by omega), rfl⟩
       ·refine XL.not_f rfl rfl ?_
        refine XL.m ?_
        refine XL.g ?_
        refine XL.m ?_
        refine XL.g ?_
        refine XL.lss_s rfl rfl rfl (fun g6 => ?_) (fun g6 => ?_)
        ·refine XL.pick_t rfl rfl rfl ?_
         refine XL.a ?_
         refine XL.n2 ?_
         refine SP.t ?_
         refine SP.r2 ?_
         refine XL.m ?_
         refine XL.n2 ?_
         refine SP.block ?_
         refine SP.gam (star_nilS (E := 209) (k := 3)) ?_
         refine SP.loop (X := ((Option Addr × Nat × Nat) × Nat) × List Cg) (fun p => [(66, .int .i64 (p.1.2 : Int)), (1, .pointer (some ⟨b1, 0, none⟩)), (2, .pointer (some ⟨b2, 0, none⟩)), (3, .pointer (some ⟨b3, 0, none⟩)), (4, .func (.func 149) #[] #[.pointer (some ⟨b3, 0, none⟩)]), (8, .int .u8 (cleanN n).self.b)]) (fun p => [pt b1 (cel (cleanN n).cs 206), pt b2 (cel [.slice none 0 0, .int .i64 0, .int .i64 0] 202), pt b3 (cel [.slice p.1.1.1 p.1.1.2.1 p.1.1.2.2, .int .i64 0, .int .i64 0] 202), CgS (.slice p.1.1.1 p.1.1.2.1 p.1.1.2.2) p.2]) (fun p => p.1.2 ≤ 4 ∧ FlowOk (cleanN n) ((cleanN n).self.b + 1) p.2 p.1.2) (fun p => 4 - p.1.2) (((none, 0, 0), 0), []) ⟨Nat.zero_le _, by simp, .nil, Nat.le_refl _⟩ (by repeat' constructor) (Pk.drop (by repeat' constructor)) ?_
         rintro ⟨⟨⟨a, m, cc⟩, i⟩, l⟩ ⟨hi, hl⟩
         dsimp only at *
         have hlen := hl.len
         refine SP.r2 ?_
         refine XL.lss_s rfl rfl rfl (fun g7 => ?_) (fun g7 => ?_)
         ·refine XL.n5 ?_
          refine SP.t ?_
          refine SP.skip ?_
          refine Jp.then_normal ?_
          refine SP.seq ?_
          refine SP.block ?_
          refine SP.r2 ?_
          refine XL.m ?_
          refine XL.a ?_
          refine XL.n4 ?_
          refine XL.m ?_
          refine XL.f ?_
          refine XL.indexArr (r := 2 + i * 2) rfl rfl (by omega) (by omega) (by simp) rfl ?_
          refine XL.f ?_
          refine XL.load (hv := GtL.sub (j := 0) (Nr.side_at (cleanN n) (show i < 6 by omega)) rfl) rfl rfl ?_
          refine XL.cs rfl (c151 _ (hc0.s i (show i < 6 by omega)).1 (hc0.s i (show i < 6 by omega)).2.1) rfl (fun g8 => ?_) (fun g8 => ?_)
          ·refine XL.n2 ?_
           refine SP.t ?_
           refine SP.region ?_
           refine XL.m ?_
           refine XL.m ?_
           refine XL.add_i64 rfl rfl (by omega) (by omega) rfl ?_
           refine XL.m ?_
           refine XL.add_u8 rfl rfl (by omega) (by omega) rfl ?_
           refine XL.build (by rfl) (by rfl) ?_
           refine XL.vw (v1 := []) (v2 := [.pointer (some ⟨b3, 0, none⟩)]) rfl rfl (c149 b3 a m cc l (by first | decide | omega) (1 + (i : Int)) (⟨13, (cleanN n).self.b + 1⟩)) (by repeat' constructor) rfl ?_
           rintro _ _ ⟨rfl, a', m', c', rfl⟩
           refine XL.app2 ?_
           refine XL.nil ?_
           refine Jp.block_normal ?_
           refine Jp.then_normal ?_
           refine SP.region ?_
           refine XL.add_i64 rfl rfl (by omega) (by omega) rfl ?_
           refine XL.m ?_
           refine XL.nil ?_
           refine Jp.rd (((a', m', c'), i + 1), l ++ [⟨1 + (i : Int), ⟨13, (cleanN n).self.b + 1⟩⟩]) ⟨by show i + 1 ≤ 4; omega, hl.more g8⟩ (by show 4 - (i + 1) < 4 - i; omega)
          ·refine XL.n2 ?_
           refine SP.f ?_
           refine SP.skip ?_
           refine Jp.block_normal ?_
           refine Jp.then_normal ?_
           refine SP.region ?_
           refine XL.add_i64 rfl rfl (by omega) (by omega) rfl ?_
           refine XL.m ?_
           refine XL.nil ?_
           refine Jp.rd (((a, m, cc), i + 1), l) ⟨by show i + 1 ≤ 4; omega, hl.keep⟩ (by show 4 - (i + 1) < 4 - i; omega)
         ·refine XL.n5 ?_
          refine SP.f ?_
          refine SP.exit ?_
          refine Jp.then_exit ?_
          refine Jp.then_exit ?_
          refine Jp.block_here ?_
          refine Jp.block_normal ?_
          refine Jp.n4 ?_
          refine XL.lA ?_
          refine XL.sA ?_
          refine XL.n2 ?_
          refine SP.ret ?_
          obtain rfl : i = 4 := by omega
          exact Jp.endcG (.inr rfl) rfl (Res.cellA (by rfl)) (Pk.drop (Γ1 := [CgS (.slice a m cc) (l)]) (by repeat' constructor)) ⟨_, _, _, l, _, _, rfl, flow_deed hn hl (by omega), rfl⟩
        ·refine XL.pick_t rfl rfl rfl ?_
         refine XL.a ?_
         refine XL.n2 ?_
         refine SP.f ?_
         refine SP.skip ?_
         refine Jp.block_normal ?_
         refine Jp.n4 ?_
         refine XL.lA ?_
         refine XL.sA ?_
         refine XL.n2 ?_
         refine SP.ret ?_
         exact Jp.endcG (.inr rfl) rfl (Res.cellA (by rfl)) (fun h _ => star_nilS (E := 209) (k := 3) h (star_nil h)) ⟨none, 0, 0, [], _, _, rfl, DeedOk.nil n (by omega), rfl⟩
    ·refine XL.m ?_
     refine XL.k ?_
     refine XL.k ?_
     refine XL.k ?_
     refine XL.pick_f rfl rfl rfl ?_
     refine XL.a ?_
     refine XL.n2 ?_
     refine SP.f ?_
     refine SP.r2 ?_
     refine XL.f ?_
     refine XL.l ?_
     refine XL.cs rfl (c151 _ (hc0.s 5 (by decide)).1 (hc0.s 5 (by decide)).2.1) rfl (fun g4 => ?_) (fun g4 => ?_)
     ·refine XL.a ?_
      refine XL.n2 ?_
      refine SP.t ?_
      refine SP.region ?_
      refine XL.m ?_
      refine XL.build (by rfl) (by rfl) ?_
      refine XL.weaken (star_nilS (E := 209) (k := 3)) ?_
      refine XL.vw (v1 := []) (v2 := [.pointer (some ⟨b3, 0, none⟩)]) rfl rfl (c149 b3 none 0 0 [] (by first | decide | omega) (6) (⟨13, 1⟩)) (by repeat' constructor) rfl ?_
      rintro _ _ ⟨rfl, a', m', c', rfl⟩
      refine XL.app2 ?_
      refine XL.nil ?_
      refine Jp.block_normal ?_
      refine Jp.n4 ?_
      refine XL.lA ?_
      refine XL.sA ?_
      refine XL.n2 ?_
      refine SP.ret ?_
      exact Jp.endcG (.inr rfl) rfl (Res.cellA (by rfl)) (Pk.drop (Γ1 := [CgS (.slice a' m' c') ([⟨6, ⟨13, 1⟩⟩])]) (by repeat' constructor)) ⟨_, _, _, [⟨6, ⟨13, 1⟩⟩], _, _, rfl, DeedOk.side (n := n) (d := 6) (by decide) (by decide) (by simp [C2.rng]) (sok_mov (sure_sok g4)).2 (by show mv ⟨13, 1⟩ - mv (n.s 5) = 0; rw [mv0 (sok_mov (sure_sok g4)).1]; decide) (by omega) (by omega), rfl⟩
     ·refine XL.a ?_
      refine XL.n2 ?_
      refine SP.f ?_
      refine SP.r2 ?_
      refine XL.lA ?_
      refine XL.cs rfl (c148 _ _) rfl (fun g5 => ?_) (fun g5 => ?_)
      ·refine XL.not_t rfl rfl ?_
       refine XL.m ?_
       refine XL.k ?_
       refine XL.k ?_
       refine XL.pick_f rfl rfl rfl ?_
       refine XL.a ?_
       refine XL.n2 ?_
       refine SP.f ?_
       refine SP.skip ?_
       refine Jp.block_normal ?_
       refine Jp.n4 ?_
       refine XL.lA ?_
       refine XL.sA ?_
       refine XL.n2 ?_
       refine SP.ret ?_
       exact Jp.endcG (.inr rfl) rfl (Res.cellA (by rfl)) (fun h _ => star_nilS (E := 209) (k := 3) h (star_nil h)) ⟨none, 0, 0, [], _, _, rfl, DeedOk.nil n (by omega), rfl⟩
      ·refine XL.not_f rfl rfl ?_
       refine XL.m ?_
       refine XL.g ?_
       refine XL.m ?_
       refine XL.g ?_
       refine XL.lss_s rfl rfl rfl (fun g6 => ?_) (fun g6 => ?_)
       ·refine XL.pick_t rfl rfl rfl ?_
        refine XL.a ?_
        refine XL.n2 ?_
        refine SP.t ?_
        refine SP.r2 ?_
        refine XL.m ?_
        refine XL.n2 ?_
        refine SP.block ?_
        refine SP.gam (star_nilS (E := 209) (k := 3)) ?_
        refine SP.loop (X := ((Option Addr × Nat × Nat) × Nat) × List Cg) (fun p => [(66, .int .i64 (p.1.2 : Int)), (1, .pointer (some ⟨b1, 0, none⟩)), (2, .pointer (some ⟨b2, 0, none⟩)), (3, .pointer (some ⟨b3, 0, none⟩)), (4, .func (.func 149) #[] #[.pointer (some ⟨b3, 0, none⟩)]), (8, .int .u8 (cleanN n).self.b)]) (fun p => [pt b1 (cel (cleanN n).cs 206), pt b2 (cel [.slice none 0 0, .int .i64 0, .int .i64 0] 202), pt b3 (cel [.slice p.1.1.1 p.1.1.2.1 p.1.1.2.2, .int .i64 0, .int .i64 0] 202), CgS (.slice p.1.1.1 p.1.1.2.1 p.1.1.2.2) p.2]) (fun p => p.1.2 ≤ 4 ∧ FlowOk (cleanN n) ((cleanN n).self.b + 1) p.2 p.1.2) (fun p => 4 - p.1.2) (((none, 0, 0), 0), []) ⟨Nat.zero_le _, by simp, .nil, Nat.le_refl _⟩ (by repeat' constructor) (Pk.drop (by repeat' constructor)) ?_
        rintro ⟨⟨⟨a, m, cc⟩, i⟩, l⟩ ⟨hi, hl⟩
        dsimp only at *
        have hlen := hl.len
        refine SP.r2 ?_
        refine XL.lss_s rfl rfl rfl (fun g7 => ?_) (fun g7 => ?_)
        ·refine XL.n5 ?_
         refine SP.t ?_
         refine SP.skip ?_
         refine Jp.then_normal ?_
         refine SP.seq ?_
         refine SP.block ?_
         refine SP.r2 ?_
         refine XL.m ?_
         refine XL.a ?_
         refine XL.n4 ?_
         refine XL.m ?_
         refine XL.f ?_
         refine XL.indexArr (r := 2 + i * 2) rfl rfl (by omega) (by omega) (by simp) rfl ?_
         refine XL.f ?_
         refine XL.load (hv := GtL.sub (j := 0) (Nr.side_at (cleanN n) (show i < 6 by omega)) rfl) rfl rfl ?_
         refine XL.cs rfl (c151 _ (hc0.s i (show i < 6 by omega)).1 (hc0.s i (show i < 6 by omega)).2.1) rfl (fun g8 => ?_) (fun g8 => ?_)
         ·refine XL.n2 ?_
          refine SP.t ?_
          refine SP.region ?_
          refine XL.m ?_
          refine XL.m ?_
          refine XL.add_i64 rfl rfl (by omega) (by omega) rfl ?_
          refine XL.m ?_
          refine XL.add_u8 rfl rfl (by omega) (by omega) rfl ?_
          refine XL.build (by rfl) (by rfl) ?_
          refine XL.vw (v1 := []) (v2 := [.pointer (some ⟨b3, 0, none⟩)]) rfl rfl (c149 b3 a m cc l (by first | decide | omega) (1 + (i : Int)) (⟨13, (cleanN n).self.b + 1⟩)) (by repeat' constructor) rfl ?_
          rintro _ _ ⟨rfl, a', m', c', rfl⟩
          refine XL.app2 ?_
          refine XL.nil ?_
          refine Jp.block_normal ?_
          refine Jp.then_normal ?_
          refine SP.region ?_
          refine XL.add_i64 rfl rfl (by omega) (by omega) rfl ?_
          refine XL.m ?_
          refine XL.nil ?_
          refine Jp.rd (((a', m', c'), i + 1), l ++ [⟨1 + (i : Int), ⟨13, (cleanN n).self.b + 1⟩⟩]) ⟨by show i + 1 ≤ 4; omega, hl.more g8⟩ (by show 4 - (i + 1) < 4 - i; omega)
         ·refine XL.n2 ?_
          refine SP.f ?_
          refine SP.skip ?_
          refine Jp.block_normal ?_
          refine Jp.then_normal ?_
          refine SP.region ?_
          refine XL.add_i64 rfl rfl (by omega) (by omega) rfl ?_
          refine XL.m ?_
          refine XL.nil ?_
          refine Jp.rd (((a, m, cc), i + 1), l) ⟨by show i + 1 ≤ 4; omega, hl.keep⟩ (by show 4 - (i + 1) < 4 - i; omega)
        ·refine XL.n5 ?_
         refine SP.f ?_
         refine SP.exit ?_
         refine Jp.then_exit ?_
         refine Jp.then_exit ?_
         refine Jp.block_here ?_
         refine Jp.block_normal ?_
         refine Jp.n4 ?_
         refine XL.lA ?_
         refine XL.sA ?_
         refine XL.n2 ?_
         refine SP.ret ?_
         obtain rfl : i = 4 := by omega
         exact Jp.endcG (.inr rfl) rfl (Res.cellA (by rfl)) (Pk.drop (Γ1 := [CgS (.slice a m cc) (l)]) (by repeat' constructor)) ⟨_, _, _, l, _, _, rfl, flow_deed hn hl (by omega), rfl⟩
       ·refine XL.pick_t rfl rfl rfl ?_
        refine XL.a ?_
        refine XL.n2 ?_
        refine SP.f ?_
        refine SP.skip ?_
        refine Jp.block_normal ?_
        refine Jp.n4 ?_
        refine XL.lA ?_
        refine XL.sA ?_
        refine XL.n2 ?_
        refine SP.ret ?_
        exact Jp.endcG (.inr rfl) rfl (Res.cellA (by rfl)) (fun h _ => star_nilS (E := 209) (k := 3) h (star_nil h)) ⟨none, 0, 0, [], _, _, rfl, DeedOk.nil n (by omega), rfl⟩
  ·refine XL.m ?_
   refine XL.x ?_
   refine XL.x ?_
   refine XL.a ?_
   refine XL.a ?_
   refine XL.n4 ?_
   refine XL.f ?_
   refine XL.indexArr (r := 12) rfl rfl (by decide) (by decide) rfl rfl ?_
   refine XL.lA ?_
   refine XL.alloc (by rfl) (fun b5 => ?_)
   refine XL.sA ?_
   refine XL.n5 ?_
   refine SP.r2 ?_
   refine XL.f ?_
   refine XL.f ?_
   refine XL.l ?_
   refine XL.a ?_
   refine XL.n2 ?_
   refine SP.block ?_
   refine SP.r2 ?_
   refine XL.m ?_
   refine XL.gtr_s rfl rfl rfl (fun g1 => ?_) (fun g1 => ?_)
   ·refine XL.m ?_
    refine XL.g ?_
    refine XL.m ?_
    refine XL.g ?_
    refine XL.not_t rfl rfl ?_
    refine XL.pick_t rfl rfl rfl ?_
    refine XL.a ?_
    refine XL.n2 ?_
    refine SP.f ?_
    refine SP.r2 ?_
    refine XL.m ?_
    refine XL.gtr_s rfl rfl rfl (fun g2 => ?_) (fun g2 => ?_)
    ·refine XL.m ?_
     refine XL.g ?_
     refine XL.m ?_
     refine XL.g ?_
     refine XL.m ?_
     refine XL.g ?_
     refine XL.neq_s rfl rfl rfl (fun g3 => ?_) (fun g3 => ?_)
     ·refine XL.pick_t rfl rfl rfl ?_
      refine XL.a ?_
      refine XL.n2 ?_
      refine SP.t ?_
      refine SP.region ?_
      refine XL.m ?_
      refine XL.m ?_
      refine XL.build (by rfl) (by rfl) ?_
      refine XL.weaken (star_nilS (E := 209) (k := 3)) ?_
      refine XL.vw (v1 := []) (v2 := [.pointer (some ⟨b3, 0, none⟩)]) rfl rfl (c149 b3 none 0 0 [] (by first | decide | omega) (0) (⟨13, wk⟩)) (by repeat' constructor) rfl ?_
      rintro _ _ ⟨rfl, a', m', c', rfl⟩
      refine XL.app2 ?_
      refine XL.nil ?_
      refine Jp.block_normal ?_
      refine Jp.n4 ?_
      refine XL.lA ?_
      refine XL.sA ?_
      refine XL.n2 ?_
      refine SP.ret ?_
      exact Jp.endcG (.inr rfl) rfl (Res.cellA (by rfl)) (Pk.drop (Γ1 := [CgS (.slice a' m' c') ([⟨0, ⟨13, wk⟩⟩])]) (by repeat' constructor)) ⟨_, _, _, [⟨0, ⟨13, wk⟩⟩], _, _, rfl, DeedOk.self (by simp [C2.rng]; omega) (by rw [mv0 (x := n.self) (by rw [sure_13 hw]; decide), mv0 (x := ⟨13, wk⟩) (show ¬ KMov 13 by decide)]), rfl⟩
     ·refine XL.pick_t rfl rfl rfl ?_
      refine XL.a ?_
      refine XL.n2 ?_
      refine SP.f ?_
      refine SP.r2 ?_
      refine XL.f ?_
      refine XL.l ?_
      refine XL.cs rfl (c151 _ (hc0.s 5 (by decide)).1 (hc0.s 5 (by decide)).2.1) rfl (fun g4 => ?_) (fun g4 => ?_)
      ·refine XL.a ?_
       refine XL.n2 ?_
       refine SP.t ?_
       refine SP.region ?_
       refine XL.m ?_
       refine XL.build (by rfl) (by rfl) ?_
       refine XL.weaken (star_nilS (E := 209) (k := 3)) ?_
       refine XL.vw (v1 := []) (v2 := [.pointer (some ⟨b3, 0, none⟩)]) rfl rfl (c149 b3 none 0 0 [] (by first | decide | omega) (6) (⟨13, 1⟩)) (by repeat' constructor) rfl ?_
       rintro _ _ ⟨rfl, a', m', c', rfl⟩
       refine XL.app2 ?_
       refine XL.nil ?_
       refine Jp.block_normal ?_
       refine Jp.n4 ?_
       refine XL.lA ?_
       refine XL.sA ?_
       refine XL.n2 ?_
       refine SP.ret ?_
       exact Jp.endcG (.inr rfl) rfl (Res.cellA (by rfl)) (Pk.drop (Γ1 := [CgS (.slice a' m' c') ([⟨6, ⟨13, 1⟩⟩])]) (by repeat' constructor)) ⟨_, _, _, [⟨6, ⟨13, 1⟩⟩], _, _, rfl, DeedOk.side (n := n) (d := 6) (by decide) (by decide) (by simp [C2.rng]) (sok_mov (sure_sok g4)).2 (by show mv ⟨13, 1⟩ - mv (n.s 5) = 0; rw [mv0 (sok_mov (sure_sok g4)).1]; decide) (by omega) (by omega), rfl⟩
      ·refine XL.a ?_
       refine XL.n2 ?_
       refine SP.f ?_
       refine SP.r2 ?_
       refine XL.lA ?_
       refine XL.cs rfl (c148 _ _) rfl (fun g5 => ?_) (fun g5 => ?_)
       ·refine XL.not_t rfl rfl ?_
        refine XL.m ?_
        refine XL.k ?_
        refine XL.k ?_
        refine XL.pick_f rfl rfl rfl ?_
        refine XL.a ?_
        refine XL.n2 ?_
        refine SP.f ?_
        refine SP.skip ?_
        refine Jp.block_normal ?_
        refine Jp.n4 ?_
        refine XL.lA ?_
        refine XL.sA ?_
        refine XL.n2 ?_
        refine SP.ret ?_
        exact Jp.endcG (.inr rfl) rfl (Res.cellA (by rfl)) (fun h _ => star_nilS (E := 209) (k := 3) h (star_nil h)) ⟨none, 0, 0, [], _, _, rfl, DeedOk.nil n (by omega), rfl⟩
       ·refine XL.not_f rfl rfl ?_
        refine XL.m ?_
        refine XL.g ?_
        refine XL.m ?_
        refine XL.g ?_
        refine XL.lss_s rfl rfl rfl (fun g6 => ?_) (fun g6 => ?_)
        ·refine XL.pick_t rfl rfl rfl ?_
         refine XL.a ?_
         refine XL.n2 ?_
         refine SP.t ?_
         refine SP.r2 ?_
         refine XL.m ?_
         refine XL.n2 ?_
         refine SP.block ?_
         refine SP.gam (star_nilS (E := 209) (k := 3)) ?_
         refine SP.loop (X := ((Option Addr × Nat × Nat) × Nat) × List Cg) (fun p => [(66, .int .i64 (p.1.2 : Int)), (1, .pointer (some ⟨b1, 0, none⟩)), (2, .pointer (some ⟨b2, 0, none⟩)), (3, .pointer (some ⟨b3, 0, none⟩)), (4, .func (.func 149) #[] #[.pointer (some ⟨b3, 0, none⟩)]), (8, .int .u8 (cleanN n).self.b)]) (fun p => [pt b1 (cel (cleanN n).cs 206), pt b2 (cel [.slice none 0 0, .int .i64 0, .int .i64 0] 202), pt b3 (cel [.slice p.1.1.1 p.1.1.2.1 p.1.1.2.2, .int .i64 0, .int .i64 0] 202), CgS (.slice p.1.1.1 p.1.1.2.1 p.1.1.2.2) p.2]) (fun p => p.1.2 ≤ 4 ∧ FlowOk (cleanN n) ((cleanN n).self.b + 1) p.2 p.1.2) (fun p => 4 - p.1.2) (((none, 0, 0), 0), []) ⟨Nat.zero_le _, by simp, .nil, Nat.le_refl _⟩ (by repeat' constructor) (Pk.drop (by repeat' constructor)) ?_
         rintro ⟨⟨⟨a, m, cc⟩, i⟩, l⟩ ⟨hi, hl⟩
         dsimp only at *
         have hlen := hl.len
         refine SP.r2 ?_
         refine XL.lss_s rfl rfl rfl (fun g7 => ?_) (fun g7 => ?_)
         ·refine XL.n5 ?_
          refine SP.t ?_
          refine SP.skip ?_
          refine Jp.then_normal ?_
          refine SP.seq ?_
          refine SP.block ?_
          refine SP.r2 ?_
          refine XL.m ?_
          refine XL.a ?_
          refine XL.n4 ?_
          refine XL.m ?_
          refine XL.f ?_
          refine XL.indexArr (r := 2 + i * 2) rfl rfl (by omega) (by omega) (by simp) rfl ?_
          refine XL.f ?_
          refine XL.load (hv := GtL.sub (j := 0) (Nr.side_at (cleanN n) (show i < 6 by omega)) rfl) rfl rfl ?_
          refine XL.cs rfl (c151 _ (hc0.s i (show i < 6 by omega)).1 (hc0.s i (show i < 6 by omega)).2.1) rfl (fun g8 => ?_) (fun g8 => ?_)
          ·refine XL.n2 ?_
           refine SP.t ?_
           refine SP.region ?_
           refine XL.m ?_
           refine XL.m ?_
           refine XL.add_i64 rfl rfl (by omega) (by omega) rfl ?_
           refine XL.m ?_
           refine XL.add_u8 rfl rfl (by omega) (by omega) rfl ?_
           refine XL.build (by rfl) (by rfl) ?_
           refine XL.vw (v1 := []) (v2 := [.pointer (some ⟨b3, 0, none⟩)]) rfl rfl (c149 b3 a m cc l (by first | decide | omega) (1 + (i : Int)) (⟨13, (cleanN n).self.b + 1⟩)) (by repeat' constructor) rfl ?_
           rintro _ _ ⟨rfl, a', m', c', rfl⟩
           refine XL.app2 ?_
           refine XL.nil ?_
           refine Jp.block_normal ?_
           refine Jp.then_normal ?_
           refine SP.region ?_
           refine XL.add_i64 rfl rfl (by omega) (by omega) rfl ?_
           refine XL.m ?_
           refine XL.nil ?_
           refine Jp.rd (((a', m', c'), i + 1), l ++ [⟨1 + (i : Int), ⟨13, (cleanN n).self.b + 1⟩⟩]) ⟨by show i + 1 ≤ 4; omega, hl.more g8⟩ (by show 4 - (i + 1) < 4 - i; omega)
          ·refine XL.n2 ?_
           refine SP.f ?_
           refine SP.skip ?_
           refine Jp.block_normal ?_
           refine Jp.then_normal ?_
           refine SP.region ?_
           refine XL.add_i64 rfl rfl (by omega) (by omega) rfl ?_
           refine XL.m ?_
           refine XL.nil ?_
           refine Jp.rd (((a, m, cc), i + 1), l) ⟨by show i + 1 ≤ 4; omega, hl.keep⟩ (by show 4 - (i + 1) < 4 - i; omega)
         ·refine XL.n5 ?_
          refine SP.f ?_
          refine SP.exit ?_
          refine Jp.then_exit ?_
          refine Jp.then_exit ?_
          refine Jp.block_here ?_
          refine Jp.block_normal ?_
          refine Jp.n4 ?_
          refine XL.lA ?_
          refine XL.sA ?_
          refine XL.n2 ?_
          refine SP.ret ?_
          obtain rfl : i = 4 := by omega
          exact Jp.endcG (.inr rfl) rfl (Res.cellA (by rfl)) (Pk.drop (Γ1 := [CgS (.slice a m cc) (l)]) (by repeat' constructor)) ⟨_, _, _, l, _, _, rfl, flow_deed hn hl (by omega), rfl⟩
        ·refine XL.pick_t rfl rfl rfl ?_
         refine XL.a ?_
         refine XL.n2 ?_
         refine SP.f ?_
         refine SP.skip ?_
         refine Jp.block_normal ?_
         refine Jp.n4 ?_
         refine XL.lA ?_
         refine XL.sA ?_
         refine XL.n2 ?_
         refine SP.ret ?_
         exact Jp.endcG (.inr rfl) rfl (Res.cellA (by rfl)) (fun h _ => star_nilS (E := 209) (k := 3) h (star_nil h)) ⟨none, 0, 0, [], _, _, rfl, DeedOk.nil n (by omega), rfl⟩
    ·refine XL.m ?_
     refine XL.k ?_
     refine XL.k ?_
     refine XL.k ?_
     refine XL.pick_f rfl rfl rfl ?_
     refine XL.a ?_
     refine XL.n2 ?_
     refine SP.f ?_
     refine SP.r2 ?_
     refine XL.f ?_
     refine XL.l ?_
     refine XL.cs rfl (c151 _ (hc0.s 5 (by decide)).1 (hc0.s 5 (by decide)).2.1) rfl (fun g4 => ?_) (fun g4 => ?_)
     ·refine XL.a ?_
      refine XL.n2 ?_
      refine SP.t ?_
      refine SP.region ?_
      refine XL.m ?_
      refine XL.build (by rfl) (by rfl) ?_
      refine XL.weaken (star_nilS (E := 209) (k := 3)) ?_
      refine XL.vw (v1 := []) (v2 := [.pointer (some ⟨b3, 0, none⟩)]) rfl rfl (c149 b3 none 0 0 [] (by first | decide | omega) (6) (⟨13, 1⟩)) (by repeat' constructor) rfl ?_
      rintro _ _ ⟨rfl, a', m', c', rfl⟩
      refine XL.app2 ?_
      refine XL.nil ?_
      refine Jp.block_normal ?_
      refine Jp.n4 ?_
      refine XL.lA ?_
      refine XL.sA ?_
      refine XL.n2 ?_
      refine SP.ret ?_
      exact Jp.endcG (.inr rfl) rfl (Res.cellA (by rfl)) (Pk.drop (Γ1 := [CgS (.slice a' m' c') ([⟨6, ⟨13, 1⟩⟩])]) (by repeat' constructor)) ⟨_, _, _, [⟨6, ⟨13, 1⟩⟩], _, _, rfl, DeedOk.side (n := n) (d := 6) (by decide) (by decide) (by simp [C2.rng]) (sok_mov (sure_sok g4)).2 (by show mv ⟨13, 1⟩ - mv (n.s 5) = 0; rw [mv0 (sok_mov (sure_sok g4)).1]; decide) (by omega) (by omega), rfl⟩
     ·refine XL.a ?_
      refine XL.n2 ?_
      refine SP.f ?_
      refine SP.r2 ?_
      refine XL.lA ?_
      refine XL.cs rfl (c148 _ _) rfl (fun g5 => ?_) (fun g5 => ?_)
      ·refine XL.not_t rfl rfl ?_
       refine XL.m ?_
       refine XL.k ?_
       refine XL.k ?_
       refine XL.pick_f rfl rfl rfl ?_
       refine XL.a ?_
       refine XL.n2 ?_
       refine SP.f ?_
       refine SP.skip ?_
       refine Jp.block_normal ?_
       refine Jp.n4 ?_
       refine XL.lA ?_
       refine XL.sA ?_
       refine XL.n2 ?_
       refine SP.ret ?_
       exact Jp.endcG (.inr rfl) rfl (Res.cellA (by rfl)) (fun h _ => star_nilS (E := 209) (k := 3) h (star_nil h)) ⟨none, 0, 0, [], _, _, rfl, DeedOk.nil n (by omega), rfl⟩
      ·refine XL.not_f rfl rfl ?_
       refine XL.m ?_
       refine XL.g ?_
       refine XL.m ?_
       refine XL.g ?_
       refine XL.lss_s rfl rfl rfl (fun g6 => ?_) (fun g6 => ?_)
       ·refine XL.pick_t rfl rfl rfl ?_
        refine XL.a ?_
        refine XL.n2 ?_
        refine SP.t ?_
        refine SP.r2 ?_
        refine XL.m ?_
        refine XL.n2 ?_
        refine SP.block ?_
        refine SP.gam (star_nilS (E := 209) (k := 3)) ?_
        refine SP.loop (X := ((Option Addr × Nat × Nat) × Nat) × List Cg) (fun p => [(66, .int .i64 (p.1.2 : Int)), (1, .pointer (some ⟨b1, 0, none⟩)), (2, .pointer (some ⟨b2, 0, none⟩)), (3, .pointer (some ⟨b3, 0, none⟩)), (4, .func (.func 149) #[] #[.pointer (some ⟨b3, 0, none⟩)]), (8, .int .u8 (cleanN n).self.b)]) (fun p => [pt b1 (cel (cleanN n).cs 206), pt b2 (cel [.slice none 0 0, .int .i64 0, .int .i64 0] 202), pt b3 (cel [.slice p.1.1.1 p.1.1.2.1 p.1.1.2.2, .int .i64 0, .int .i64 0] 202), CgS (.slice p.1.1.1 p.1.1.2.1 p.1.1.2.2) p.2]) (fun p => p.1.2 ≤ 4 ∧ FlowOk (cleanN n) ((cleanN n).self.b + 1) p.2 p.1.2) (fun p => 4 - p.1.2) (((none, 0, 0), 0), []) ⟨Nat.zero_le _, by simp, .nil, Nat.le_refl _⟩ (by repeat' constructor) (Pk.drop (by repeat' constructor)) ?_
        rintro ⟨⟨⟨a, m, cc⟩, i⟩, l⟩ ⟨hi, hl⟩
        dsimp only at *
        have hlen := hl.len
        refine SP.r2 ?_
        refine XL.lss_s rfl rfl rfl (fun g7 => ?_) (fun g7 => ?_)
        ·refine XL.n5 ?_
         refine SP.t ?_
         refine SP.skip ?_
         refine Jp.then_normal ?_
         refine SP.seq ?_
         refine SP.block ?_
         refine SP.r2 ?_
         refine XL.m ?_
         refine XL.a ?_
         refine XL.n4 ?_
         refine XL.m ?_
         refine XL.f ?_
         refine XL.indexArr (r := 2 + i * 2) rfl rfl (by omega) (by omega) (by simp) rfl ?_
         refine XL.f ?_
         refine XL.load (hv := GtL.sub (j := 0) (Nr.side_at (cleanN n) (show i < 6 by omega)) rfl) rfl rfl ?_
         refine XL.cs rfl (c151 _ (hc0.s i (show i < 6 by omega)).1 (hc0.s i (show i < 6 by omega)).2.1) rfl (fun g8 => ?_) (fun g8 => ?_)
         ·refine XL.n2 ?_
          refine SP.t ?_
          refine SP.region ?_
          refine XL.m ?_
          refine XL.m ?_
          refine XL.add_i64 rfl rfl (by omega) (by omega) rfl ?_
          refine XL.m ?_
          refine XL.add_u8 rfl rfl (by omega) (by omega) rfl ?_
          refine XL.build (by rfl) (by rfl) ?_
          refine XL.vw (v1 := []) (v2 := [.pointer (some ⟨b3, 0, none⟩)]) rfl rfl (c149 b3 a m cc l (by first | decide | omega) (1 + (i : Int)) (⟨13, (cleanN n).self.b + 1⟩)) (by repeat' constructor) rfl ?_
          rintro _ _ ⟨rfl, a', m', c', rfl⟩
          refine XL.app2 ?_
          refine XL.nil ?_
          refine Jp.block_normal ?_
          refine Jp.then_normal ?_
          refine SP.region ?_
          refine XL.add_i64 rfl rfl (by omega) (by omega) rfl ?_
          refine XL.m ?_
          refine XL.nil ?_
          refine Jp.rd (((a', m', c'), i + 1), l ++ [⟨1 + (i : Int), ⟨13, (cleanN n).self.b + 1⟩⟩]) ⟨by show i + 1 ≤ 4; omega, hl.more g8⟩ (by show 4 - (i + 1) < 4 - i; omega)
         ·refine XL.n2 ?_
          refine SP.f ?_
          refine SP.skip ?_
          refine Jp.block_normal ?_
          refine Jp.then_normal ?_
          refine SP.region ?_
          refine XL.add_i64 rfl rfl (by omega) (by omega) rfl ?_
          refine XL.m ?_
          refine XL.nil ?_
          refine Jp.rd (((a, m, cc), i + 1), l) ⟨by show i + 1 ≤ 4; omega, hl.keep⟩ (by show 4 - (i + 1) < 4 - i; omega)
        ·refine XL.n5 ?_
         refine SP.f ?_
         refine SP.exit ?_
         refine Jp.then_exit ?_
         refine Jp.then_exit ?_
         refine Jp.block_here ?_
         refine Jp.block_normal ?_
         refine Jp.n4 ?_
         refine XL.lA ?_
         refine XL.sA ?_
         refine XL.n2 ?_
         refine SP.ret ?_
         obtain rfl : i = 4 := by omega
         exact Jp.endcG (.inr rfl) rfl (Res.cellA (by rfl)) (Pk.drop (Γ1 := [CgS (.slice a m cc) (l)]) (by repeat' constructor)) ⟨_, _, _, l, _, _, rfl, flow_deed hn hl (by omega), rfl⟩
       ·refine XL.pick_t rfl rfl rfl ?_
        refine XL.a ?_
        refine XL.n2 ?_
        refine SP.f ?_
        refine SP.skip ?_
        refine Jp.block_normal ?_
        refine Jp.n4 ?_
        refine XL.lA ?_
        refine XL.sA ?_
        refine XL.n2 ?_
        refine SP.ret ?_
        exact Jp.endcG (.inr rfl) rfl (Res.cellA (by rfl)) (fun h _ => star_nilS (E := 209) (k := 3) h (star_nil h)) ⟨none, 0, 0, [], _, _, rfl, DeedOk.nil n (by omega), rfl⟩
   ·refine XL.m ?_
    refine XL.k ?_
    refine XL.k ?_
    refine XL.pick_f rfl rfl rfl ?_
    refine XL.a ?_
    refine XL.n2 ?_
    refine SP.f ?_
    refine SP.r2 ?_
    refine XL.m ?_
    refine XL.gtr_s rfl rfl rfl (fun g2 => ?_) (fun g2 => ?_)
    ·refine XL.m ?_
     refine XL.g ?_
     refine XL.m ?_
     refine XL.g ?_
     refine XL.m ?_
     refine XL.g ?_
     refine XL.neq_s rfl rfl rfl (fun g3 => ?_) (fun g3 => ?_)
     ·refine XL.pick_t rfl rfl rfl ?_
      refine XL.a ?_
      refine XL.n2 ?_
      refine SP.t ?_
      refine SP.region ?_
      refine XL.m ?_
      refine XL.m ?_
      refine XL.build (by rfl) (by rfl) ?_
      refine XL.weaken (star_nilS (E := 209) (k := 3)) ?_
      refine XL.vw (v1 := []) (v2 := [.pointer (some ⟨b3, 0, none⟩)]) rfl rfl (c149 b3 none 0 0 [] (by first | decide | omega) (0) (⟨13, wk⟩)) (by repeat' constructor) rfl ?_
      rintro _ _ ⟨rfl, a', m', c', rfl⟩
      refine XL.app2 ?_
      refine XL.nil ?_
      refine Jp.block_normal ?_
      refine Jp.n4 ?_
      refine XL.lA ?_
      refine XL.sA ?_
      refine XL.n2 ?_
      refine SP.ret ?_
      exact Jp.endcG (.inr rfl) rfl (Res.cellA (by rfl)) (Pk.drop (Γ1 := [CgS (.slice a' m' c') ([⟨0, ⟨13, wk⟩⟩])]) (by repeat' constructor)) ⟨_, _, _, [⟨0, ⟨13, wk⟩⟩], _, _, rfl, DeedOk.self (by simp [C2.rng]; omega) (by rw [mv0 (x := n.self) (by rw [sure_13 hw]; decide), mv0 (x := ⟨13, wk⟩) (show ¬ KMov 13 by decide)]), rfl⟩
     ·refine XL.pick_t rfl rfl rfl ?_
      refine XL.a ?_
      refine XL.n2 ?_
      refine SP.f ?_
      refine SP.r2 ?_
      refine XL.f ?_
      refine XL.l ?_
      refine XL.cs rfl (c151 _ (hc0.s 5 (by decide)).1 (hc0.s 5 (by decide)).2.1) rfl (fun g4 => ?_) (fun g4 => ?_)
      ·refine XL.a ?_
       refine XL.n2 ?_
       refine SP.t ?_
       refine SP.region ?_
       refine XL.m ?_
       refine XL.build (by rfl) (by rfl) ?_
       refine XL.weaken (star_nilS (E := 209) (k := 3)) ?_
       refine XL.vw (v1 := []) (v2 := [.pointer (some ⟨b3, 0, none⟩)]) rfl rfl (c149 b3 none 0 0 [] (by first | decide | omega) (6) (⟨13, 1⟩)) (by repeat' constructor) rfl ?_
       rintro _ _ ⟨rfl, a', m', c', rfl⟩
       refine XL.app2 ?_
       refine XL.nil ?_
       refine Jp.block_normal ?_
       refine Jp.n4 ?_
       refine XL.lA ?_
       refine XL.sA ?_
       refine XL.n2 ?_
       refine SP.ret ?_
       exact Jp.endcG (.inr rfl) rfl (Res.cellA (by rfl)) (Pk.drop (Γ1 := [CgS (.slice a' m' c') ([⟨6, ⟨13, 1⟩⟩])]) (by repeat' constructor)) ⟨_, _, _, [⟨6, ⟨13, 1⟩⟩], _, _, rfl, DeedOk.side (n := n) (d := 6) (by decide) (by decide) (by simp [C2.rng]) (sok_mov (sure_sok g4)).2 (by show mv ⟨13, 1⟩ - mv (n.s 5) = 0; rw [mv0 (sok_mov (sure_sok g4)).1]; decide) (by omega) (by omega), rfl⟩
      ·refine XL.a ?_
       refine XL.n2 ?_
       refine SP.f ?_
       refine SP.r2 ?_
       refine XL.lA ?_
       refine XL.cs rfl (c148 _ _) rfl (fun g5 => ?_) (fun g5 => ?_)
       ·refine XL.not_t rfl rfl ?_
        refine XL.m ?_
        refine XL.k ?_
        refine XL.k ?_
        refine XL.pick_f rfl rfl rfl ?_
        refine XL.a ?_
        refine XL.n2 ?_
        refine SP.f ?_
        refine SP.skip ?_
        refine Jp.block_normal ?_
        refine Jp.n4 ?_
        refine XL.lA ?_
        refine XL.sA ?_
        refine XL.n2 ?_
        refine SP.ret ?_
        exact Jp.endcG (.inr rfl) rfl (Res.cellA (by rfl)) (fun h _ => star_nilS (E := 209) (k := 3) h (star_nil h)) ⟨none, 0, 0, [], _, _, rfl, DeedOk.nil n (by omega), rfl⟩
       ·refine XL.not_f rfl rfl ?_
        refine XL.m ?_
        refine XL.g ?_
        refine XL.m ?_
        refine XL.g ?_
        refine XL.lss_s rfl rfl rfl (fun g6 => ?_) (fun g6 => ?_)
        ·refine XL.pick_t rfl rfl rfl ?_
         refine XL.a ?_
         refine XL.n2 ?_
         refine SP.t ?_
         refine SP.r2 ?_
         refine XL.m ?_
         refine XL.n2 ?_
         refine SP.block ?_
         refine SP.gam (star_nilS (E := 209) (k := 3)) ?_
         refine SP.loop (X := ((Option Addr × Nat × Nat) × Nat) × List Cg) (fun p => [(66, .int .i64 (p.1.2 : Int)), (1, .pointer (some ⟨b1, 0, none⟩)), (2, .pointer (some ⟨b2, 0, none⟩)), (3, .pointer (some ⟨b3, 0, none⟩)), (4, .func (.func 149) #[] #[.pointer (some ⟨b3, 0, none⟩)]), (8, .int .u8 (cleanN n).self.b)]) (fun p => [pt b1 (cel (cleanN n).cs 206), pt b2 (cel [.slice none 0 0, .int .i64 0, .int .i64 0] 202), pt b3 (cel [.slice p.1.1.1 p.1.1.2.1 p.1.1.2.2, .int .i64 0, .int .i64 0] 202), CgS (.slice p.1.1.1 p.1.1.2.1 p.1.1.2.2) p.2]) (fun p => p.1.2 ≤ 4 ∧ FlowOk (cleanN n) ((cleanN n).self.b + 1) p.2 p.1.2) (fun p => 4 - p.1.2) (((none, 0, 0), 0), []) ⟨Nat.zero_le _, by simp, .nil, Nat.le_refl _⟩ (by repeat' constructor) (Pk.drop (by repeat' constructor)) ?_
         rintro ⟨⟨⟨a, m, cc⟩, i⟩, l⟩ ⟨hi, hl⟩
         dsimp only at *
         have hlen := hl.len
         refine SP.r2 ?_
         refine XL.lss_s rfl rfl rfl (fun g7 => ?_) (fun g7 => ?_)
         ·refine XL.n5 ?_
          refine SP.t ?_
          refine SP.skip ?_
          refine Jp.then_normal ?_
          refine SP.seq ?_
          refine SP.block ?_
          refine SP.r2 ?_
          refine XL.m ?_
          refine XL.a ?_
          refine XL.n4 ?_
          refine XL.m ?_
          refine XL.f ?_
          refine XL.indexArr (r := 2 + i * 2) rfl rfl (by omega) (by omega) (by simp) rfl ?_
          refine XL.f ?_
          refine XL.load (hv := GtL.sub (j := 0) (Nr.side_at (cleanN n) (show i < 6 by omega)) rfl) rfl rfl ?_
          refine XL.cs rfl (c151 _ (hc0.s i (show i < 6 by omega)).1 (hc0.s i (show i < 6 by omega)).2.1) rfl (fun g8 => ?_) (fun g8 => ?_)
          ·refine XL.n2 ?_
           refine SP.t ?_
           refine SP.region ?_
           refine XL.m ?_
           refine XL.m ?_
           refine XL.add_i64 rfl rfl (by omega) (by omega) rfl ?_
           refine XL.m ?_
           refine XL.add_u8 rfl rfl (by omega) (by omega) rfl ?_
           refine XL.build (by rfl) (by rfl) ?_
           refine XL.vw (v1 := []) (v2 := [.pointer (some ⟨b3, 0, none⟩)]) rfl rfl (c149 b3 a m cc l (by first | decide | omega) (1 + (i : Int)) (⟨13, (cleanN n).self.b + 1⟩)) (by repeat' constructor) rfl ?_
           rintro _ _ ⟨rfl, a', m', c', rfl⟩
           refine XL.app2 ?_
           refine XL.nil ?_
           refine Jp.block_normal ?_
           refine Jp.then_normal ?_
           refine SP.region ?_
           refine XL.add_i64 rfl rfl (by omega) (by omega) rfl ?_
           refine XL.m ?_
           refine XL.nil ?_
           refine Jp.rd (((a', m', c'), i + 1), l ++ [⟨1 + (i : Int), ⟨13, (cleanN n).self.b + 1⟩⟩]) ⟨by show i + 1 ≤ 4; omega, hl.more g8⟩ (by show 4 - (i + 1) < 4 - i; omega)
          ·refine XL.n2 ?_
           refine SP.f ?_
           refine SP.skip ?_
           refine Jp.block_normal ?_
           refine Jp.then_normal ?_
           refine SP.region ?_
           refine XL.add_i64 rfl rfl (by omega) (by omega) rfl ?_
           refine XL.m ?_
           refine XL.nil ?_
           refine Jp.rd (((a, m, cc), i + 1), l) ⟨by show i + 1 ≤ 4; omega, hl.keep⟩ (by show 4 - (i + 1) < 4 - i; omega)
         ·refine XL.n5 ?_
          refine SP.f ?_
          refine SP.exit ?_
          refine Jp.then_exit ?_
          refine Jp.then_exit ?_
          refine Jp.block_here ?_
          refine Jp.block_normal ?_
          refine Jp.n4 ?_
          refine XL.lA ?_
          refine XL.sA ?_
          refine XL.n2 ?_
          refine SP.ret ?_
          obtain rfl : i = 4 := by omega
          exact Jp.endcG (.inr rfl) rfl (Res.cellA (by rfl)) (Pk.drop (Γ1 := [CgS (.slice a m cc) (l)]) (by repeat' constructor)) ⟨_, _, _, l, _, _, rfl, flow_deed hn hl (by omega), rfl⟩
        ·refine XL.pick_t rfl rfl rfl ?_
         refine XL.a ?_
         refine XL.n2 ?_
         refine SP.f ?_
         refine SP.skip ?_
         refine Jp.block_normal ?_
         refine Jp.n4 ?_
         refine XL.lA ?_
         refine XL.sA ?_
         refine XL.n2 ?_
         refine SP.ret ?_
         exact Jp.endcG (.inr rfl) rfl (Res.cellA (by rfl)) (fun h _ => star_nilS (E := 209) (k := 3) h (star_nil h)) ⟨none, 0, 0, [], _, _, rfl, DeedOk.nil n (by omega), rfl⟩
    ·refine XL.m ?_
     refine XL.k ?_
     refine XL.k ?_
     refine XL.k ?_
     refine XL.pick_f rfl rfl rfl ?_
     refine XL.a ?_
     refine XL.n2 ?_
     refine SP.f ?_
     refine SP.r2 ?_
     refine XL.f ?_
     refine XL.l ?_
     refine XL.cs rfl (c151 _ (hc0.s 5 (by decide)).1 (hc0.s 5 (by decide)).2.1) rfl (fun g4 => ?_) (fun g4 => ?_)
     ·refine XL.a ?_
      refine XL.n2 ?_
      refine SP.t ?_
      refine SP.region ?_
      refine XL.m ?_
      refine XL.build (by rfl) (by rfl) ?_
      refine XL.weaken (star_nilS (E := 209) (k := 3)) ?_
      refine XL.vw (v1 := []) (v2 := [.pointer (some ⟨b3, 0, none⟩)]) rfl rfl (c149 b3 none 0 0 [] (by first | decide | omega) (6) (⟨13, 1⟩)) (by repeat' constructor) rfl ?_
      rintro _ _ ⟨rfl, a', m', c', rfl⟩
      refine XL.app2 ?_
      refine XL.nil ?_
      refine Jp.block_normal ?_
      refine Jp.n4 ?_
      refine XL.lA ?_
      refine XL.sA ?_
      refine XL.n2 ?_
      refine SP.ret ?_
      exact Jp.endcG (.inr rfl) rfl (Res.cellA (by rfl)) (Pk.drop (Γ1 := [CgS (.slice a' m' c') ([⟨6, ⟨13, 1⟩⟩])]) (by repeat' constructor)) ⟨_, _, _, [⟨6, ⟨13, 1⟩⟩], _, _, rfl, DeedOk.side (n := n) (d := 6) (by decide) (by decide) (by simp [C2.rng]) (sok_mov (sure_sok g4)).2 (by show mv ⟨13, 1⟩ - mv (n.s 5) = 0; rw [mv0 (sok_mov (sure_sok g4)).1]; decide) (by omega) (by omega), rfl⟩
     ·refine XL.a ?_
      refine XL.n2 ?_
      refine SP.f ?_
      refine SP.r2 ?_
      refine XL.lA ?_
      refine XL.cs rfl (c148 _ _) rfl (fun g5 => ?_) (fun g5 => ?_)
      ·refine XL.not_t rfl rfl ?_
       refine XL.m ?_
       refine XL.k ?_
       refine XL.k ?_
       refine XL.pick_f rfl rfl rfl ?_
       refine XL.a ?_
       refine XL.n2 ?_
       refine SP.f ?_
       refine SP.skip ?_
       refine Jp.block_normal ?_
       refine Jp.n4 ?_
       refine XL.lA ?_
       refine XL.sA ?_
       refine XL.n2 ?_
       refine SP.ret ?_
       exact Jp.endcG (.inr rfl) rfl (Res.cellA (by rfl)) (fun h _ => star_nilS (E := 209) (k := 3) h (star_nil h)) ⟨none, 0, 0, [], _, _, rfl, DeedOk.nil n (by omega), rfl⟩
      ·refine XL.not_f rfl rfl ?_
       refine XL.m ?_
       refine XL.g ?_
       refine XL.m ?_
       refine XL.g ?_
       refine XL.lss_s rfl rfl rfl (fun g6 => ?_) (fun g6 => ?_)
       ·refine XL.pick_t rfl rfl rfl ?_
        refine XL.a ?_
        refine XL.n2 ?_
        refine SP.t ?_
        refine SP.r2 ?_
        refine XL.m ?_
        refine XL.n2 ?_
        refine SP.block ?_
        refine SP.gam (star_nilS (E := 209) (k := 3)) ?_
        refine SP.loop (X := ((Option Addr × Nat × Nat) × Nat) × List Cg) (fun p => [(66, .int .i64 (p.1.2 : Int)), (1, .pointer (some ⟨b1, 0, none⟩)), (2, .pointer (some ⟨b2, 0, none⟩)), (3, .pointer (some ⟨b3, 0, none⟩)), (4, .func (.func 149) #[] #[.pointer (some ⟨b3, 0, none⟩)]), (8, .int .u8 (cleanN n).self.b)]) (fun p => [pt b1 (cel (cleanN n).cs 206), pt b2 (cel [.slice none 0 0, .int .i64 0, .int .i64 0] 202), pt b3 (cel [.slice p.1.1.1 p.1.1.2.1 p.1.1.2.2, .int .i64 0, .int .i64 0] 202), CgS (.slice p.1.1.1 p.1.1.2.1 p.1.1.2.2) p.2]) (fun p => p.1.2 ≤ 4 ∧ FlowOk (cleanN n) ((cleanN n).self.b + 1) p.2 p.1.2) (fun p => 4 - p.1.2) (((none, 0, 0), 0), []) ⟨Nat.zero_le _, by simp, .nil, Nat.le_refl _⟩ (by repeat' constructor) (Pk.drop (by repeat' constructor)) ?_
        rintro ⟨⟨⟨a, m, cc⟩, i⟩, l⟩ ⟨hi, hl⟩
        dsimp only at *
        have hlen := hl.len
        refine SP.r2 ?_
        refine XL.lss_s rfl rfl rfl (fun g7 => ?_) (fun g7 => ?_)
        ·refine XL.n5 ?_
         refine SP.t ?_
         refine SP.skip ?_
         refine Jp.then_normal ?_
         refine SP.seq ?_
         refine SP.block ?_
         refine SP.r2 ?_
         refine XL.m ?_
         refine XL.a ?_
         refine XL.n4 ?_
         refine XL.m ?_
         refine XL.f ?_
         refine XL.indexArr (r := 2 + i * 2) rfl rfl (by omega) (by omega) (by simp) rfl ?_
         refine XL.f ?_
         refine XL.load (hv := GtL.sub (j := 0) (Nr.side_at (cleanN n) (show i < 6 by omega)) rfl) rfl rfl ?_
         refine XL.cs rfl (c151 _ (hc0.s i (show i < 6 by omega)).1 (hc0.s i (show i < 6 by omega)).2.1) rfl (fun g8 => ?_) (fun g8 => ?_)
         ·refine XL.n2 ?_
          refine SP.t ?_
          refine SP.region ?_
          refine XL.m ?_
          refine XL.m ?_
          refine XL.add_i64 rfl rfl (by omega) (by omega) rfl ?_
          refine XL.m ?_
          refine XL.add_u8 rfl rfl (by omega) (by omega) rfl ?_
          refine XL.build (by rfl) (by rfl) ?_
          refine XL.vw (v1 := []) (v2 := [.pointer (some ⟨b3, 0, none⟩)]) rfl rfl (c149 b3 a m cc l (by first | decide | omega) (1 + (i : Int)) (⟨13, (cleanN n).self.b + 1⟩)) (by repeat' constructor) rfl ?_
          rintro _ _ ⟨rfl, a', m', c', rfl⟩
          refine XL.app2 ?_
          refine XL.nil ?_
          refine Jp.block_normal ?_
          refine Jp.then_normal ?_
          refine SP.region ?_
          refine XL.add_i64 rfl rfl (by omega) (by omega) rfl ?_
          refine XL.m ?_
          refine XL.nil ?_
          refine Jp.rd (((a', m', c'), i + 1), l ++ [⟨1 + (i : Int), ⟨13, (cleanN n).self.b + 1⟩⟩]) ⟨by show i + 1 ≤ 4; omega, hl.more g8⟩ (by show 4 - (i + 1) < 4 - i; omega)
         ·refine XL.n2 ?_
          refine SP.f ?_
          refine SP.skip ?_
          refine Jp.block_normal ?_
          refine Jp.then_normal ?_
          refine SP.region ?_
          refine XL.add_i64 rfl rfl (by omega) (by omega) rfl ?_
          refine XL.m ?_
          refine XL.nil ?_
          refine Jp.rd (((a, m, cc), i + 1), l) ⟨by show i + 1 ≤ 4; omega, hl.keep⟩ (by show 4 - (i + 1) < 4 - i; omega)
        ·refine XL.n5 ?_
         refine SP.f ?_
         refine SP.exit ?_
         refine Jp.then_exit ?_
         refine Jp.then_exit ?_
         refine Jp.block_here ?_
         refine Jp.block_normal ?_
         refine Jp.n4 ?_
         refine XL.lA ?_
         refine XL.sA ?_
         refine XL.n2 ?_
         refine SP.ret ?_
         obtain rfl : i = 4 := by omega
         exact Jp.endcG (.inr rfl) rfl (Res.cellA (by rfl)) (Pk.drop (Γ1 := [CgS (.slice a m cc) (l)]) (by repeat' constructor)) ⟨_, _, _, l, _, _, rfl, flow_deed hn hl (by omega), rfl⟩
       ·refine XL.pick_t rfl rfl rfl ?_
        refine XL.a ?_
        refine XL.n2 ?_
        refine SP.f ?_
        refine SP.skip ?_
        refine Jp.block_normal ?_
        refine Jp.n4 ?_
        refine XL.lA ?_
        refine XL.sA ?_
        refine XL.n2 ?_
        refine SP.ret ?_
        exact Jp.endcG (.inr rfl) rfl (Res.cellA (by rfl)) (fun h _ => star_nilS (E := 209) (k := 3) h (star_nil h)) ⟨none, 0, 0, [], _, _, rfl, DeedOk.nil n (by omega), rfl⟩
 ·refine XL.not_f rfl rfl ?_
  refine XL.n2 ?_
  refine SP.t ?_
  refine SP.r2 ?_
  refine XL.build (by rfl) (by rfl) ?_
  refine XL.sA ?_
  refine XL.n2 ?_
  refine SP.ret ?_
  refine Jp.then_ret ?_
  exact Jp.endcG (.inr rfl) rfl (Res.cellA (by rfl)) (fun h _ => star_nilS (E := 209) (k := 3) h (star_nil h)) ⟨none, 0, 0, [], _, _, rfl, DeedOk.nil n (by omega), rfl⟩
end Go.Proofs

namespace Go.Proofs
open Go.Bk
theorem Nr.sides_at (n : Nr) {i : Nat} (h : i < 6) : SbL [.int .u8 (n.s 0).a, .int .u8 (n.s 0).b, .int .u8 (n.s 1).a, .int .u8 (n.s 1).b, .int .u8 (n.s 2).a, .int .u8 (n.s 2).b, .int .u8 (n.s 3).a, .int .u8 (n.s 3).b, .int .u8 (n.s 4).a, .int .u8 (n.s 4).b, .int .u8 (n.s 5).a, .int .u8 (n.s 5).b] (i * 2) 2 (n.s i).cs := by
 rcases lt6 h with rfl | rfl | rfl | rfl | rfl | rfl <;> exact ⟨Nat.le_of_ble_eq_true rfl, rfl⟩
theorem DeedOk.self' {n : Nr} {c : C2} {dl ag : Int} (hc : C2.rng c) (h : mv c - mv n.self = dl) (ha : 0 ≤ ag ∧ ag ≤ 5) (hdl : -1 ≤ dl ∧ dl ≤ 1) : DeedOk n [⟨0, c⟩] ag dl := by
 refine ⟨fun x hx => ?_, by simp, by simp, ?_, ha, hdl⟩
 ·simp only [List.mem_cons, List.not_mem_nil, or_false] at hx
  subst hx; exact ⟨show (0 : Int) ≤ 0 by decide, show (0 : Int) ≤ 6 by decide, hc, fun h => absurd h (show ¬ (0 : Int) < 0 by decide)⟩
 ·show mv c - mv n.self + 0 = dl
  omega
theorem sure_brn {x : C2} (h : KBrn (sureC x).a) : sureC x = x := sure_is rfl (fun e => by rw [e] at h; revert h; decide)
@[reducible] def DeedR2 (n : Nr) (A : Asn) (v : Value) (Γ' : List Asn) : Prop := ∃ a m c l again delta, v = .agg #[.slice a m c, .int .i64 again, .int .i64 delta] ∧ DeedOk n l again delta ∧ Γ' = [CgS (.slice a m c) l, A]
theorem c154 (b : Nat) (n : Nr) (h14 : n.self.a = 14) : Tri Tryz.prog 154 [.pointer (some ⟨b, 0, none⟩)] [pt b (cel n.cs 206)] (DeedR2 n (pt b (cel n.cs 206))) := by
 refine Pcalls (n := 13) Tryz.func154 rfl rfl rfl fun W0 H0 => ?_
 refine SP.r2 ?_
 refine XL.alloc (by rfl) (fun b1 => ?_)
 refine XL.n5 ?_
 refine SP.r2 ?_
 refine XL.f ?_
 refine XL.f ?_
 refine XL.l ?_
 refine XL.eql_s rfl rfl rfl (fun g => ?_) (fun g => ?_)
 ·refine XL.n2 ?_
  refine SP.t ?_
  refine SP.r2 ?_
  refine XL.build (by rfl) (by rfl) ?_
  refine XL.build (by rfl) (by rfl) ?_
  refine XL.buildSlice (by rfl) (by rfl) (by rfl) (by decide) rfl (fun b3 => ?_)
  refine XL.build (by rfl) (by rfl) ?_
  refine XL.sA ?_
  refine XL.n2 ?_
  refine SP.ret ?_
  refine Jp.then_ret ?_
  refine Jp.lit 1 (k := 3) (b := b3) (by repeat' constructor) rfl ?_
  refine Jp.endcG (.inr rfl) rfl (Res.cellA (by rfl)) (Pk.drop (Γ1 := [CgS (.slice (some ⟨b3, 0, none⟩) 1 1) [⟨0, ⟨8, 0⟩⟩], pt b (cel n.cs 206)]) (by repeat' constructor)) ⟨_, _, _, [⟨0, ⟨8, 0⟩⟩], _, _, rfl, DeedOk.self' (by simp [C2.rng]) (by rw [mv0 (x := n.self) (by rw [h14]; decide)]; decide) (by omega) (by omega), rfl⟩
 ·refine XL.n2 ?_
  refine SP.f ?_
  refine SP.skip ?_
  refine Jp.n4 ?_
  refine XL.build (by rfl) (by rfl) ?_
  refine XL.buildSlice (by rfl) (by rfl) (by rfl) (by decide) rfl (fun b3 => ?_)
  refine XL.build (by rfl) (by rfl) ?_
  refine XL.sA ?_
  refine XL.n2 ?_
  refine SP.ret ?_
  refine Jp.lit 1 (k := 3) (b := b3) (by repeat' constructor) rfl ?_
  refine Jp.endcG (.inr rfl) rfl (Res.cellA (by rfl)) (Pk.drop (Γ1 := [CgS (.slice (some ⟨b3, 0, none⟩) 1 1) [⟨0, ⟨0, 0⟩⟩], pt b (cel n.cs 206)]) (by repeat' constructor)) ⟨_, _, _, [⟨0, ⟨0, 0⟩⟩], _, _, rfl, DeedOk.self' (by simp [C2.rng]) (by rw [mv0 (x := n.self) (by rw [h14]; decide)]; decide) (by omega) (by omega), rfl⟩
theorem quoU {a m : Int} (h0 : 0 ≤ a) (h1 : a < 18446744073709551616) (hm : 0 < m) : IntKind.u64.wrap (a.tdiv m) = a / m := by
 rw [Int.tdiv_eq_ediv_of_nonneg h0]
 have h2 : 0 ≤ a / m := Int.ediv_nonneg h0 (by omega)
 have h3 : a / m ≤ a := Int.ediv_le_self _ h0
 exact wrapU64_of (by omega) (by omega)
theorem fire_ok {n : Nr} {j : Nat} (hj : j < 6) (h : KBrn (sureC (n.s j)).a) {lv dl : Int} (hl : 0 ≤ lv ∧ lv ≤ 255) (hd : dl = - mv (sureC (n.s j))) : DeedOk n [⟨1 + (j : Int), ⟨14, lv⟩⟩] 3 dl := by
 have hat : n.at (1 + (j : Int)) = n.s j := by
  unfold Nr.at; rw [if_neg (by omega)]; congr 1; omega
 have e := sure_brn h
 rw [e] at h hd
 have h2 : mv (n.s j) = 0 ∨ mv (n.s j) = 1 := by unfold mv; split <;> simp
 refine DeedOk.side (by omega) (by omega) (by simp [C2.rng]; omega) (by rw [hat]; intro e; rw [e] at h; revert h; decide) (by rw [hat, hd, mv0 (x := ⟨14, lv⟩) (show ¬ KMov 14 by decide)]; omega) (by omega) (by omega)
theorem c127 (n : Nr) (hn : n.Ok) : Tri Tryz.prog 127 [.agg n.cs.toArray] [] (DeedR n) := by
 refine Pcalls (n := 88) Tryz.func127 rfl rfl rfl fun W0 H0 => ?_
 refine SP.r2 ?_
 refine XL.boxA rfl rfl (fun b1 => ?_)
 refine XL.alloc (by rfl) (fun b2 => ?_)
 refine XL.n5 ?_
 refine SP.r2 ?_
 refine XL.f ?_
 refine XL.lA ?_
 refine XL.cp rfl (c152 _ _ (hn.self).1 (hn.self).2.1 (hn.self).2.2.1 (hn.self).2.2.2) rfl ?_
 refine XL.alloc (by rfl) (fun b3 => ?_)
 refine XL.sA ?_
 refine XL.n4 ?_
 refine XL.f ?_
 refine XL.l ?_
 refine XL.neq_s rfl rfl rfl (fun g0 => ?_) (fun g0 => ?_)
 ·refine XL.n2 ?_
  refine SP.t ?_
  refine SP.r2 ?_
  refine XL.build (by rfl) (by rfl) ?_
  refine XL.sA ?_
  refine XL.n2 ?_
  refine SP.ret ?_
  refine Jp.then_ret ?_
  exact Jp.endcG (.inr rfl) rfl (Res.cellA (by rfl)) (fun h _ => star_nilS (E := 209) (k := 3) h (star_nil h)) ⟨none, 0, 0, [], _, _, rfl, DeedOk.nil n (by omega), rfl⟩
 ·have g0' : (sureC n.self).a = 14 := g0
  have h14 : n.self.a = 14 := by rw [sure_is g0' (by decide)] at g0'; exact g0'
  refine XL.n2 ?_
  refine SP.f ?_
  refine SP.skip ?_
  refine Jp.n4 ?_
  refine XL.a ?_
  refine XL.a ?_
  refine XL.n5 ?_
  refine SP.r2 ?_
  refine XL.f ?_
  refine XL.lA ?_
  refine XL.m ?_
  refine XL.n2 ?_
  refine SP.block ?_
  refine SP.loop (X := (Nat × Bool) × Bool) (fun p => [(22, .int .i64 (p.1.1 : Int)), (4, .bool p.1.2), (5, .bool p.2), (1, .pointer (some ⟨b1, 0, none⟩)), (2, .pointer (some ⟨b2, 0, none⟩)), (3, .pointer (some ⟨b3, 0, none⟩)), (21, .agg #[.int .u8 (n.s 0).a, .int .u8 (n.s 0).b, .int .u8 (n.s 1).a, .int .u8 (n.s 1).b, .int .u8 (n.s 2).a, .int .u8 (n.s 2).b, .int .u8 (n.s 3).a, .int .u8 (n.s 3).b, .int .u8 (n.s 4).a, .int .u8 (n.s 4).b, .int .u8 (n.s 5).a, .int .u8 (n.s 5).b])]) (fun p => [pt b1 (cel n.cs 206), pt b2 (cel [.slice none 0 0, .int .i64 0, .int .i64 0] 202), pt b3 (cel (sureC n.self).cs 51)]) (fun p => p.1.1 ≤ 6) (fun p => 6 - p.1.1) ((0, false), false) (Nat.zero_le _) (by repeat' constructor) (Pk.drop (by repeat' constructor)) ?_
  rintro ⟨⟨i, bb⟩, bw⟩ hi
  dsimp only at *
  refine SP.r2 ?_
  refine XL.lss_s rfl rfl rfl (fun gi => ?_) (fun gi => ?_)
  ·have hsr := sureC_rng (hn.s i (show i < 6 by omega))
   refine XL.n5 ?_
   refine SP.t ?_
   refine SP.skip ?_
   refine Jp.then_normal ?_
   refine SP.seq ?_
   refine SP.block ?_
   refine SP.r2 ?_
   refine XL.indexA (hE := inferInstance) rfl rfl rfl (by omega) (Nr.sides_at n (show i < 6 by omega)) rfl ?_
   refine XL.alloc (by rfl) (fun b4 => ?_)
   refine XL.sA ?_
   refine XL.n4 ?_
   refine XL.lA ?_
   refine XL.cp rfl (c152 _ _ (hn.s i (show i < 6 by omega)).1 (hn.s i (show i < 6 by omega)).2.1 (hn.s i (show i < 6 by omega)).2.2.1 (hn.s i (show i < 6 by omega)).2.2.2) rfl ?_
   refine XL.field (by rfl) (by rfl) ?_
   refine XL.a ?_
   refine XL.n4 ?_
   rcases bb with _ | _
   ·refine XL.m ?_
    refine XL.m ?_
    refine XL.g ?_
    refine XL.m ?_
    refine XL.g ?_
    refine XL.cs rfl (c153 _ hsr.1 hsr.2.1) rfl (fun q1 => ?_) (fun q1 => ?_)
    ·refine XL.pick_f rfl rfl rfl ?_
     refine XL.a ?_
     refine XL.n3 ?_
     rcases bw with _ | _
     ·refine XL.m ?_
      refine XL.m ?_
      refine XL.g ?_
      refine XL.m ?_
      refine XL.g ?_
      refine XL.eql_s rfl rfl rfl (fun q2 => ?_) (fun q2 => ?_)
      ·refine XL.pick_f rfl rfl rfl ?_
       refine XL.a ?_
       refine XL.nil ?_
       refine Jp.block_normal ?_
       refine Jp.then_normal ?_
       refine SP.region ?_
       refine XL.add_i64 rfl rfl (by omega) (by omega) rfl ?_
       refine XL.m ?_
       refine XL.nil ?_
       refine Jp.rd ((i + 1, true), true) (by show i + 1 ≤ 6; omega) (by show 6 - (i + 1) < 6 - i; omega)
      ·refine XL.pick_f rfl rfl rfl ?_
       refine XL.a ?_
       refine XL.nil ?_
       refine Jp.block_normal ?_
       refine Jp.then_normal ?_
       refine SP.region ?_
       refine XL.add_i64 rfl rfl (by omega) (by omega) rfl ?_
       refine XL.m ?_
       refine XL.nil ?_
       refine Jp.rd ((i + 1, true), false) (by show i + 1 ≤ 6; omega) (by show 6 - (i + 1) < 6 - i; omega)
     ·refine XL.m ?_
      refine XL.m ?_
      refine XL.k ?_
      refine XL.k ?_
      refine XL.pick_t rfl rfl rfl ?_
      refine XL.a ?_
      refine XL.nil ?_
      refine Jp.block_normal ?_
      refine Jp.then_normal ?_
      refine SP.region ?_
      refine XL.add_i64 rfl rfl (by omega) (by omega) rfl ?_
      refine XL.m ?_
      refine XL.nil ?_
      refine Jp.rd ((i + 1, true), true) (by show i + 1 ≤ 6; omega) (by show 6 - (i + 1) < 6 - i; omega)
    ·refine XL.pick_f rfl rfl rfl ?_
     refine XL.a ?_
     refine XL.n3 ?_
     rcases bw with _ | _
     ·refine XL.m ?_
      refine XL.m ?_
      refine XL.g ?_
      refine XL.m ?_
      refine XL.g ?_
      refine XL.eql_s rfl rfl rfl (fun q2 => ?_) (fun q2 => ?_)
      ·refine XL.pick_f rfl rfl rfl ?_
       refine XL.a ?_
       refine XL.nil ?_
       refine Jp.block_normal ?_
       refine Jp.then_normal ?_
       refine SP.region ?_
       refine XL.add_i64 rfl rfl (by omega) (by omega) rfl ?_
       refine XL.m ?_
       refine XL.nil ?_
       refine Jp.rd ((i + 1, false), true) (by show i + 1 ≤ 6; omega) (by show 6 - (i + 1) < 6 - i; omega)
      ·refine XL.pick_f rfl rfl rfl ?_
       refine XL.a ?_
       refine XL.nil ?_
       refine Jp.block_normal ?_
       refine Jp.then_normal ?_
       refine SP.region ?_
       refine XL.add_i64 rfl rfl (by omega) (by omega) rfl ?_
       refine XL.m ?_
       refine XL.nil ?_
       refine Jp.rd ((i + 1, false), false) (by show i + 1 ≤ 6; omega) (by show 6 - (i + 1) < 6 - i; omega)
     ·refine XL.m ?_
      refine XL.m ?_
      refine XL.k ?_
      refine XL.k ?_
      refine XL.pick_t rfl rfl rfl ?_
      refine XL.a ?_
      refine XL.nil ?_
      refine Jp.block_normal ?_
      refine Jp.then_normal ?_
      refine SP.region ?_
      refine XL.add_i64 rfl rfl (by omega) (by omega) rfl ?_
      refine XL.m ?_
      refine XL.nil ?_
      refine Jp.rd ((i + 1, false), true) (by show i + 1 ≤ 6; omega) (by show 6 - (i + 1) < 6 - i; omega)
   ·refine XL.m ?_
    refine XL.m ?_
    refine XL.k ?_
    refine XL.k ?_
    refine XL.pick_t rfl rfl rfl ?_
    refine XL.a ?_
    refine XL.n3 ?_
    rcases bw with _ | _
    ·refine XL.m ?_
     refine XL.m ?_
     refine XL.g ?_
     refine XL.m ?_
     refine XL.g ?_
     refine XL.eql_s rfl rfl rfl (fun q2 => ?_) (fun q2 => ?_)
     ·refine XL.pick_f rfl rfl rfl ?_
      refine XL.a ?_
      refine XL.nil ?_
      refine Jp.block_normal ?_
      refine Jp.then_normal ?_
      refine SP.region ?_
      refine XL.add_i64 rfl rfl (by omega) (by omega) rfl ?_
      refine XL.m ?_
      refine XL.nil ?_
      refine Jp.rd ((i + 1, true), true) (by show i + 1 ≤ 6; omega) (by show 6 - (i + 1) < 6 - i; omega)
     ·refine XL.pick_f rfl rfl rfl ?_
      refine XL.a ?_
      refine XL.nil ?_
      refine Jp.block_normal ?_
      refine Jp.then_normal ?_
      refine SP.region ?_
      refine XL.add_i64 rfl rfl (by omega) (by omega) rfl ?_
      refine XL.m ?_
      refine XL.nil ?_
      refine Jp.rd ((i + 1, true), false) (by show i + 1 ≤ 6; omega) (by show 6 - (i + 1) < 6 - i; omega)
    ·refine XL.m ?_
     refine XL.m ?_
     refine XL.k ?_
     refine XL.k ?_
     refine XL.pick_t rfl rfl rfl ?_
     refine XL.a ?_
     refine XL.nil ?_
     refine Jp.block_normal ?_
     refine Jp.then_normal ?_
     refine SP.region ?_
     refine XL.add_i64 rfl rfl (by omega) (by omega) rfl ?_
     refine XL.m ?_
     refine XL.nil ?_
     refine Jp.rd ((i + 1, true), true) (by show i + 1 ≤ 6; omega) (by show 6 - (i + 1) < 6 - i; omega)
  ·refine XL.n5 ?_
   refine SP.f ?_
   refine SP.exit ?_
   refine Jp.then_exit ?_
   refine Jp.then_exit ?_
   refine Jp.block_here ?_
   refine Jp.n4 ?_
   refine XL.f ?_
   refine XL.l ?_
   obtain ⟨j, hj⟩ : ∃ j : Nat, n.draw % 6 = (j : Int) := ⟨(n.draw % 6).toNat, by have := Int.emod_nonneg n.draw (b := 6) (by decide); omega⟩
   have hj6 : j < 6 := by omega
   refine XL.rem (r := (j : Int)) rfl rfl (by decide) (by rw [rem64 hn.draw.1 (by decide), hj]) rfl ?_
   refine XL.conv (by rfl) ⟨_, Tryz.underlying22⟩ (by first | rfl | exact wrap64_of (by omega) (by omega) | exact wrapU8_of (by omega) (by omega) | exact wrapU64_of (by omega) (by omega)) (by rfl) ?_
   refine XL.a ?_
   refine XL.n4 ?_
   refine XL.m ?_
   refine XL.f ?_
   refine XL.indexArr (r := 2 + j * 2) rfl rfl (by omega) (by omega) (by simp) rfl ?_
   refine XL.loadA (hs := Nr.side_at n hj6) rfl rfl ?_
   refine XL.cp rfl (c152 _ _ (hn.s j hj6).1 (hn.s j hj6).2.1 (hn.s j hj6).2.2.1 (hn.s j hj6).2.2.2) rfl ?_
   refine XL.alloc (by rfl) (fun b5 => ?_)
   refine XL.sA ?_
   refine XL.n4 ?_
   refine XL.makeFunc (l1 := []) (l2 := [.tmp 1]) rfl rfl rfl ?_
   refine XL.a ?_
   refine XL.n5 ?_
   refine SP.block ?_
   refine SP.seq ?_
   refine SP.block ?_
   refine SP.block ?_
   refine SP.seq ?_
   refine SP.block ?_
   refine SP.seq ?_
   refine SP.block ?_
   refine SP.seq ?_
   refine SP.seq ?_
   refine SP.r2 ?_
   rcases bw with _ | _
   ·refine XL.m ?_
    refine XL.a ?_
    refine XL.n2 ?_
    refine SP.f ?_
    refine SP.skip ?_
    refine Jp.then_normal ?_
    refine SP.seq ?_
    refine SP.r2 ?_
    refine XL.f ?_
    refine XL.l ?_
    refine XL.cs rfl (c153 _ (sureC_rng (hn.s j hj6)).1 (sureC_rng (hn.s j hj6)).2.1) rfl (fun q3 => ?_) (fun q3 => ?_)
    ·refine XL.a ?_
     refine XL.n2 ?_
     refine SP.t ?_
     refine SP.exit ?_
     refine Jp.then_exit ?_
     refine Jp.then_exit ?_
     refine Jp.block_there rfl ?_
     refine Jp.then_exit ?_
     refine Jp.block_here ?_
     refine Jp.then_normal ?_
     refine SP.seq ?_
     refine SP.r2 ?_
     refine XL.m ?_
     refine XL.add_i64 rfl rfl (by omega) (by omega) rfl ?_
     refine XL.build (by rfl) (by rfl) ?_
     refine XL.build (by rfl) (by rfl) ?_
     refine XL.buildSlice (by rfl) (by rfl) (by rfl) (by decide) rfl (fun b8 => ?_)
     refine XL.build (by rfl) (by rfl) ?_
     refine XL.alloc (by rfl) (fun b6 => ?_)
     refine XL.sA ?_
     refine XL.n5 ?_
     refine SP.r2 ?_
     refine XL.f ?_
     refine XL.l ?_
     refine XL.eql_s rfl rfl rfl (fun q5 => ?_) (fun q5 => ?_)
     ·refine XL.n2 ?_
      refine SP.t ?_
      refine SP.region ?_
      refine XL.f ?_
      refine XL.l ?_
      refine XL.indexSl (r := 0) rfl rfl (by decide) (by decide) rfl rfl ?_
      refine XL.f ?_
      refine XL.f ?_
      refine XL.store (by rfl) (by rfl) (by rfl) ?_
      refine XL.n5 ?_
      refine SP.r2 ?_
      refine XL.f ?_
      refine XL.l ?_
      refine XL.cs rfl (c26 _ (sureC_rng (hn.s j hj6)).1 (sureC_rng (hn.s j hj6)).2.1) rfl (fun q6 => ?_) (fun q6 => ?_)
      ·refine XL.n2 ?_
       refine SP.t ?_
       refine SP.region ?_
       refine XL.f ?_
       refine XL.store (by rfl) (by rfl) (by rfl) ?_
       refine XL.n4 ?_
       refine XL.lA ?_
       refine XL.sA ?_
       refine XL.n2 ?_
       refine SP.ret ?_
       refine Jp.then_ret ?_
       refine Jp.block_ret ?_
       refine Jp.block_ret ?_
       refine Jp.then_ret ?_
       refine Jp.block_ret ?_
       refine Jp.then_ret ?_
       refine Jp.lit 1 (k := 3) (b := b8) (by repeat' constructor) rfl ?_
       refine Jp.endcG (.inr rfl) rfl (Res.cellA (by rfl)) (Pk.drop (Γ1 := [CgS (.slice (some ⟨b8, 0, none⟩) 1 1) [⟨1 + (j : Int), ⟨14, 1⟩⟩]]) (by repeat' constructor)) ⟨_, _, _, [⟨1 + (j : Int), ⟨14, 1⟩⟩], _, _, rfl, fire_ok hj6 q3 (by omega) (by rw [mv1 q6]), rfl⟩
      ·refine XL.n2 ?_
       refine SP.f ?_
       refine SP.skip ?_
       refine Jp.n4 ?_
       refine XL.lA ?_
       refine XL.sA ?_
       refine XL.n2 ?_
       refine SP.ret ?_
       refine Jp.then_ret ?_
       refine Jp.block_ret ?_
       refine Jp.block_ret ?_
       refine Jp.then_ret ?_
       refine Jp.block_ret ?_
       refine Jp.then_ret ?_
       refine Jp.lit 1 (k := 3) (b := b8) (by repeat' constructor) rfl ?_
       refine Jp.endcG (.inr rfl) rfl (Res.cellA (by rfl)) (Pk.drop (Γ1 := [CgS (.slice (some ⟨b8, 0, none⟩) 1 1) [⟨1 + (j : Int), ⟨14, 1⟩⟩]]) (by repeat' constructor)) ⟨_, _, _, [⟨1 + (j : Int), ⟨14, 1⟩⟩], _, _, rfl, fire_ok hj6 q3 (by omega) (by rw [mv0 q6]; rfl), rfl⟩
     ·refine XL.n2 ?_
      refine SP.f ?_
      refine SP.skip ?_
      refine Jp.then_normal ?_
      refine SP.seq ?_
      refine SP.r2 ?_
      refine XL.f ?_
      refine XL.l ?_
      refine XL.cs rfl (c26 _ (sureC_rng (hn.s j hj6)).1 (sureC_rng (hn.s j hj6)).2.1) rfl (fun q6 => ?_) (fun q6 => ?_)
      ·refine XL.n2 ?_
       refine SP.t ?_
       refine SP.region ?_
       refine XL.f ?_
       refine XL.store (by rfl) (by rfl) (by rfl) ?_
       refine XL.n4 ?_
       refine XL.lA ?_
       refine XL.sA ?_
       refine XL.n2 ?_
       refine SP.ret ?_
       refine Jp.then_ret ?_
       refine Jp.block_ret ?_
       refine Jp.block_ret ?_
       refine Jp.then_ret ?_
       refine Jp.block_ret ?_
       refine Jp.then_ret ?_
       refine Jp.lit 1 (k := 3) (b := b8) (by repeat' constructor) rfl ?_
       refine Jp.endcG (.inr rfl) rfl (Res.cellA (by rfl)) (Pk.drop (Γ1 := [CgS (.slice (some ⟨b8, 0, none⟩) 1 1) [⟨1 + (j : Int), ⟨14, 0⟩⟩]]) (by repeat' constructor)) ⟨_, _, _, [⟨1 + (j : Int), ⟨14, 0⟩⟩], _, _, rfl, fire_ok hj6 q3 (by omega) (by rw [mv1 q6]), rfl⟩
      ·refine XL.n2 ?_
       refine SP.f ?_
       refine SP.skip ?_
       refine Jp.n4 ?_
       refine XL.lA ?_
       refine XL.sA ?_
       refine XL.n2 ?_
       refine SP.ret ?_
       refine Jp.then_ret ?_
       refine Jp.block_ret ?_
       refine Jp.block_ret ?_
       refine Jp.then_ret ?_
       refine Jp.block_ret ?_
       refine Jp.then_ret ?_
       refine Jp.lit 1 (k := 3) (b := b8) (by repeat' constructor) rfl ?_
       refine Jp.endcG (.inr rfl) rfl (Res.cellA (by rfl)) (Pk.drop (Γ1 := [CgS (.slice (some ⟨b8, 0, none⟩) 1 1) [⟨1 + (j : Int), ⟨14, 0⟩⟩]]) (by repeat' constructor)) ⟨_, _, _, [⟨1 + (j : Int), ⟨14, 0⟩⟩], _, _, rfl, fire_ok hj6 q3 (by omega) (by rw [mv0 q6]; rfl), rfl⟩
    ·refine XL.a ?_
     refine XL.n2 ?_
     refine SP.f ?_
     refine SP.skip ?_
     refine Jp.then_normal ?_
     refine SP.seq ?_
     refine SP.r2 ?_
     rcases bb with _ | _
     ·refine XL.m ?_
      refine XL.not_f rfl rfl ?_
      refine XL.a ?_
      refine XL.n2 ?_
      refine SP.t ?_
      refine SP.exit ?_
      refine Jp.then_exit ?_
      refine Jp.then_exit ?_
      refine Jp.block_there rfl ?_
      refine Jp.then_exit ?_
      refine Jp.block_there rfl ?_
      refine Jp.then_exit ?_
      refine Jp.block_here ?_
      refine Jp.block_normal ?_
      refine Jp.then_normal ?_
      refine SP.seq ?_
      refine SP.r2 ?_
      refine XL.m ?_
      refine XL.vw (v1 := []) (v2 := [.pointer (some ⟨b1, 0, none⟩)]) rfl rfl (c154 b1 n h14) (by repeat' constructor) rfl ?_
      rintro _ _ ⟨a, m, c, l, ag, dl, rfl, hD, rfl⟩
      refine XL.app2 ?_
      refine XL.sA ?_
      refine XL.n2 ?_
      refine SP.ret ?_
      refine Jp.then_ret ?_
      refine Jp.block_ret ?_
      refine Jp.then_ret ?_
      exact Jp.endcG (.inr rfl) rfl (Res.cellA (by rfl)) (Pk.drop (Γ1 := [CgS (.slice a m c) l]) (by repeat' constructor)) ⟨_, _, _, l, _, _, rfl, hD, rfl⟩
     ·refine XL.m ?_
      refine XL.not_t rfl rfl ?_
      refine XL.a ?_
      refine XL.n2 ?_
      refine SP.f ?_
      refine SP.skip ?_
      refine Jp.n4 ?_
      refine XL.f ?_
      refine XL.l ?_
      refine XL.quo (r := n.draw / 6) rfl rfl (by decide) (quoU hn.draw.1 hn.draw.2 (by decide)) rfl ?_
      refine XL.rem (r := n.draw / 6 % 4) rfl rfl (by decide) (rem64 (by have := hn.draw.1; omega) (by decide)) rfl ?_
      refine XL.eql_s rfl rfl rfl (fun q4 => ?_) (fun q4 => ?_)
      ·refine XL.a ?_
       refine XL.n2 ?_
       refine SP.t ?_
       refine SP.exit ?_
       refine Jp.then_exit ?_
       refine Jp.block_there rfl ?_
       refine Jp.then_exit ?_
       refine Jp.block_there rfl ?_
       refine Jp.then_exit ?_
       refine Jp.block_there rfl ?_
       refine Jp.block_here ?_
       refine Jp.then_normal ?_
       refine SP.seq ?_
       refine SP.r2 ?_
       refine XL.m ?_
       refine XL.vw (v1 := []) (v2 := [.pointer (some ⟨b1, 0, none⟩)]) rfl rfl (c154 b1 n h14) (by repeat' constructor) rfl ?_
       rintro _ _ ⟨a, m, c, l, ag, dl, rfl, hD, rfl⟩
       refine XL.app2 ?_
       refine XL.sA ?_
       refine XL.n2 ?_
       refine SP.ret ?_
       refine Jp.then_ret ?_
       refine Jp.block_ret ?_
       refine Jp.then_ret ?_
       exact Jp.endcG (.inr rfl) rfl (Res.cellA (by rfl)) (Pk.drop (Γ1 := [CgS (.slice a m c) l]) (by repeat' constructor)) ⟨_, _, _, l, _, _, rfl, hD, rfl⟩
      ·refine XL.a ?_
       refine XL.n2 ?_
       refine SP.f ?_
       refine SP.skip ?_
       refine Jp.then_normal ?_
       refine SP.exit ?_
       refine Jp.block_there rfl ?_
       refine Jp.then_exit ?_
       refine Jp.block_there rfl ?_
       refine Jp.then_exit ?_
       refine Jp.block_there rfl ?_
       refine Jp.block_there rfl ?_
       refine Jp.then_exit ?_
       refine Jp.block_here ?_
       refine Jp.n4 ?_
       refine XL.build (by rfl) (by rfl) ?_
       refine XL.sA ?_
       refine XL.n2 ?_
       refine SP.ret ?_
       exact Jp.endcG (.inr rfl) rfl (Res.cellA (by rfl)) (fun h _ => star_nilS (E := 209) (k := 3) h (star_nil h)) ⟨none, 0, 0, [], _, _, rfl, DeedOk.nil n (by omega), rfl⟩
   ·refine XL.m ?_
    refine XL.a ?_
    refine XL.n2 ?_
    refine SP.t ?_
    refine SP.exit ?_
    refine Jp.then_exit ?_
    refine Jp.then_exit ?_
    refine Jp.block_here ?_
    refine Jp.then_normal ?_
    refine SP.seq ?_
    refine SP.r2 ?_
    refine XL.m ?_
    refine XL.vw (v1 := []) (v2 := [.pointer (some ⟨b1, 0, none⟩)]) rfl rfl (c154 b1 n h14) (by repeat' constructor) rfl ?_
    rintro _ _ ⟨a, m, c, l, ag, dl, rfl, hD, rfl⟩
    refine XL.app2 ?_
    refine XL.sA ?_
    refine XL.n2 ?_
    refine SP.ret ?_
    refine Jp.then_ret ?_
    refine Jp.block_ret ?_
    refine Jp.then_ret ?_
    refine Jp.block_ret ?_
    refine Jp.block_ret ?_
    refine Jp.then_ret ?_
    refine Jp.block_ret ?_
    refine Jp.then_ret ?_
    exact Jp.endcG (.inr rfl) rfl (Res.cellA (by rfl)) (Pk.drop (Γ1 := [CgS (.slice a m c) l]) (by repeat' constructor)) ⟨_, _, _, l, _, _, rfl, hD, rfl⟩
theorem c155 (x : C2) : Tri Tryz.prog 155 [.agg #[.int .u8 x.a, .int .u8 x.b]] [] (fun v Γ' => ∃ b, v = .slice (some ⟨b, 0, none⟩) 1 1 ∧ Γ' = [CgS v [⟨0, x⟩]]) := by
 refine Pcalls (n := 6) Tryz.func155 rfl rfl rfl fun W0 H0 => ?_
 refine SP.r2 ?_
 refine XL.boxA rfl rfl (fun b1 => ?_)
 refine XL.a ?_
 refine XL.n4 ?_
 refine XL.lA ?_
 refine XL.build (by rfl) (by rfl) ?_
 refine XL.buildSlice (by rfl) (by rfl) (by rfl) (by decide) rfl (fun b3 => ?_)
 refine XL.a ?_
 refine XL.n2 ?_
 refine SP.ret ?_
 refine Jp.lit 1 (k := 3) (b := b3) (by repeat' constructor) rfl ?_
 exact Jp.go (Pk.drop (Γ1 := [CgS (.slice (some ⟨b3, 0, none⟩) 1 1) [⟨0, x⟩]]) (by repeat' constructor)) (Jp.end1 (.inr rfl) rfl rfl ⟨b3, rfl, rfl⟩)
theorem c128 (n : Nr) (hn : n.Ok) : Tri Tryz.prog 128 [.agg n.cs.toArray] [] (DeedR n) := by
 refine Pcalls (n := 49) Tryz.func128 rfl rfl rfl fun W0 H0 => ?_
 refine SP.r2 ?_
 refine XL.boxA rfl rfl (fun b1 => ?_)
 refine XL.alloc (by rfl) (fun b2 => ?_)
 refine XL.n4 ?_
 refine XL.f ?_
 refine XL.lA ?_
 refine XL.cp rfl (c152 _ _ (hn.self).1 (hn.self).2.1 (hn.self).2.2.1 (hn.self).2.2.2) rfl ?_
 refine XL.alloc (by rfl) (fun b3 => ?_)
 refine XL.sA ?_
 refine XL.n5 ?_
 refine SP.r2 ?_
 refine XL.f ?_
 refine XL.l ?_
 refine XL.neq_s rfl rfl rfl (fun g0 => ?_) (fun g0 => ?_)
 ·refine XL.n2 ?_
  refine SP.t ?_
  refine SP.r2 ?_
  refine XL.build (by rfl) (by rfl) ?_
  refine XL.sA ?_
  refine XL.n2 ?_
  refine SP.ret ?_
  refine Jp.then_ret ?_
  exact Jp.endcG (.inr rfl) rfl (Res.cellA (by rfl)) (fun h _ => star_nilS (E := 209) (k := 3) h (star_nil h)) ⟨none, 0, 0, [], _, _, rfl, DeedOk.nil n (by omega), rfl⟩
 ·have g0' : (sureC n.self).a = 12 := g0
  have h12 : n.self.a = 12 := by rw [sure_is g0' (by decide)] at g0'; exact g0'
  refine XL.n2 ?_
  refine SP.f ?_
  refine SP.skip ?_
  refine Jp.n4 ?_
  refine XL.a ?_
  refine XL.n5 ?_
  refine SP.block ?_
  refine SP.r2 ?_
  refine XL.f ?_
  refine XL.indexArr (r := 12) rfl rfl (by decide) (by decide) rfl rfl ?_
  refine XL.lA ?_
  refine XL.cp rfl (c152 _ _ (hn.s 5 (by decide)).1 (hn.s 5 (by decide)).2.1 (hn.s 5 (by decide)).2.2.1 (hn.s 5 (by decide)).2.2.2) rfl ?_
  refine XL.field (by rfl) (by rfl) ?_
  refine XL.neq_s rfl rfl rfl (fun g1 => ?_) (fun g1 => ?_)
  ·refine XL.a ?_
   refine XL.n2 ?_
   refine SP.t ?_
   refine SP.r2 ?_
   refine XL.m ?_
   refine XL.build (by rfl) (by rfl) ?_
   refine XL.vw (v1 := []) (v2 := []) rfl rfl (c155 (⟨0, 0⟩)) (Pk.nil _) rfl ?_
   rintro _ _ ⟨b5, rfl, rfl⟩
   refine XL.app1 ?_
   refine XL.build (by rfl) (by rfl) ?_
   refine XL.sA ?_
   refine XL.n2 ?_
   refine SP.ret ?_
   refine Jp.block_ret ?_
   refine Jp.then_ret ?_
   exact Jp.endcG (.inr rfl) rfl (Res.cellA (by rfl)) (Pk.drop (Γ1 := [CgS (.slice (some ⟨b5, 0, none⟩) 1 1) [⟨0, ⟨0, 0⟩⟩]]) (by repeat' constructor)) ⟨_, _, _, [⟨0, ⟨0, 0⟩⟩], _, _, rfl, DeedOk.self' (by simp [C2.rng]) (by rw [mv0 (x := n.self) (by rw [h12]; decide)]; decide) (by omega) (by omega), rfl⟩
  ·refine XL.a ?_
   refine XL.n2 ?_
   refine SP.f ?_
   refine SP.r2 ?_
   refine XL.f ?_
   refine XL.l ?_
   refine XL.lss_s rfl rfl rfl (fun g2 => ?_) (fun g2 => ?_)
   ·refine XL.m ?_
    refine XL.k ?_
    refine XL.k ?_
    refine XL.k ?_
    refine XL.k ?_
    refine XL.pick_t rfl rfl rfl ?_
    refine XL.a ?_
    refine XL.n2 ?_
    refine SP.t ?_
    refine SP.r2 ?_
    refine XL.build (by rfl) (by rfl) ?_
    refine XL.sA ?_
    refine XL.n2 ?_
    refine SP.ret ?_
    refine Jp.block_ret ?_
    refine Jp.then_ret ?_
    exact Jp.endcG (.inr rfl) rfl (Res.cellA (by rfl)) (fun h _ => star_nilS (E := 209) (k := 3) h (star_nil h)) ⟨none, 0, 0, [], _, _, rfl, DeedOk.nil n (by omega), rfl⟩
   ·refine XL.m ?_
    refine XL.g ?_
    refine XL.f ?_
    refine XL.g ?_
    refine XL.l ?_
    refine XL.g ?_
    refine XL.rem (r := n.draw % 4) rfl rfl (by decide) (rem64 hn.draw.1 (by decide)) rfl ?_
    refine XL.g ?_
    refine XL.neq_s rfl rfl rfl (fun g3 => ?_) (fun g3 => ?_)
    ·refine XL.pick_f rfl rfl rfl ?_
     refine XL.a ?_
     refine XL.n2 ?_
     refine SP.t ?_
     refine SP.r2 ?_
     refine XL.build (by rfl) (by rfl) ?_
     refine XL.sA ?_
     refine XL.n2 ?_
     refine SP.ret ?_
     refine Jp.block_ret ?_
     refine Jp.then_ret ?_
     exact Jp.endcG (.inr rfl) rfl (Res.cellA (by rfl)) (fun h _ => star_nilS (E := 209) (k := 3) h (star_nil h)) ⟨none, 0, 0, [], _, _, rfl, DeedOk.nil n (by omega), rfl⟩
    ·refine XL.pick_f rfl rfl rfl ?_
     refine XL.a ?_
     refine XL.n2 ?_
     refine SP.f ?_
     refine SP.r2 ?_
     refine XL.f ?_
     refine XL.l ?_
     refine XL.lss_s rfl rfl rfl (fun g4 => ?_) (fun g4 => ?_)
     ·have hlr : 0 ≤ (sureC ⟨n.self.a, n.self.b⟩).b := (sureC_rng hn.self).2.2.1
      refine XL.a ?_
      refine XL.n2 ?_
      refine SP.t ?_
      refine SP.r2 ?_
      refine XL.m ?_
      refine XL.f ?_
      refine XL.l ?_
      refine XL.add_u8 rfl rfl (by omega) (by omega) rfl ?_
      refine XL.build (by rfl) (by rfl) ?_
      refine XL.vw (v1 := []) (v2 := []) rfl rfl (c155 (⟨12, (sureC ⟨n.self.a, n.self.b⟩).b + 1⟩)) (Pk.nil _) rfl ?_
      rintro _ _ ⟨b5, rfl, rfl⟩
      refine XL.app1 ?_
      refine XL.build (by rfl) (by rfl) ?_
      refine XL.sA ?_
      refine XL.n2 ?_
      refine SP.ret ?_
      refine Jp.block_ret ?_
      refine Jp.then_ret ?_
      exact Jp.endcG (.inr rfl) rfl (Res.cellA (by rfl)) (Pk.drop (Γ1 := [CgS (.slice (some ⟨b5, 0, none⟩) 1 1) [⟨0, ⟨12, (sureC ⟨n.self.a, n.self.b⟩).b + 1⟩⟩]]) (by repeat' constructor)) ⟨_, _, _, [⟨0, ⟨12, (sureC ⟨n.self.a, n.self.b⟩).b + 1⟩⟩], _, _, rfl, DeedOk.self' (by simp [C2.rng]; omega) (by rw [mv0 (x := n.self) (by rw [h12]; decide), mv0 (x := ⟨12, _⟩) (show ¬ KMov 12 by decide)]; decide) (by omega) (by omega), rfl⟩
     ·refine XL.a ?_
      refine XL.n2 ?_
      refine SP.f ?_
      refine SP.skip ?_
      refine Jp.block_normal ?_
      refine Jp.n4 ?_
      refine XL.m ?_
      refine XL.build (by rfl) (by rfl) ?_
      refine XL.vw (v1 := []) (v2 := []) rfl rfl (c155 (⟨7, 0⟩)) (Pk.nil _) rfl ?_
      rintro _ _ ⟨b5, rfl, rfl⟩
      refine XL.app1 ?_
      refine XL.build (by rfl) (by rfl) ?_
      refine XL.sA ?_
      refine XL.n2 ?_
      refine SP.ret ?_
      exact Jp.endcG (.inr rfl) rfl (Res.cellA (by rfl)) (Pk.drop (Γ1 := [CgS (.slice (some ⟨b5, 0, none⟩) 1 1) [⟨0, ⟨7, 0⟩⟩]]) (by repeat' constructor)) ⟨_, _, _, [⟨0, ⟨7, 0⟩⟩], _, _, rfl, DeedOk.self' (by simp [C2.rng]) (by rw [mv0 (x := n.self) (by rw [h12]; decide)]; decide) (by omega) (by omega), rfl⟩
def delayK (k : Int) : Int := if k = 4 then 1 else if k = 5 then 1 else if k = 8 then 1 else if k = 13 then 2 else if k = 14 then 3 else if k = 12 then 5 else 0
def nextK (k : Int) : Nat := if k = 4 then 125 else if k = 5 then 125 else if k = 8 then 125 else if k = 13 then 126 else if k = 14 then 127 else if k = 12 then 128 else 129
def kindK (k : Int) : Int := if k = 4 then 4 else if k = 5 then 5 else if k = 8 then 8 else if k = 13 then 13 else if k = 14 then 14 else if k = 12 then 12 else 0
def rkAt : Nat → Int
 | 0 => 4
 | 1 => 5
 | 2 => 8
 | 3 => 13
 | 4 => 14
 | _ => 12
@[reducible] def ruleV (k : Int) : List Value := [.int .u8 (kindK k), .int .i64 (delayK k), .func (.func (nextK k)) #[] #[]]
theorem ruleV_def (k : Int) (h : ∀ j, j < 6 → rkAt j ≠ k) : ruleV k = [.int .u8 0, .int .i64 0, .func (.func 129) #[] #[]] := by
 have h0 := h 0 (by decide); have h1 := h 1 (by decide); have h2 := h 2 (by decide); have h3 := h 3 (by decide); have h4 := h 4 (by decide); have h5 := h 5 (by decide)
 simp only [rkAt] at h0 h1 h2 h3 h4 h5
 unfold ruleV kindK delayK nextK
 repeat rw [if_neg (by omega)]
theorem rules_at {i : Nat} (h : i < 6) : SbL [.int .u8 4, .int .i64 1, .func (.func 125) #[] #[], .int .u8 5, .int .i64 1, .func (.func 125) #[] #[], .int .u8 8, .int .i64 1, .func (.func 125) #[] #[], .int .u8 13, .int .i64 2, .func (.func 126) #[] #[], .int .u8 14, .int .i64 3, .func (.func 127) #[] #[], .int .u8 12, .int .i64 5, .func (.func 128) #[] #[]] (i * 3) 3 (ruleV (rkAt i)) := by
 rcases lt6 h with rfl | rfl | rfl | rfl | rfl | rfl <;> exact ⟨Nat.le_of_ble_eq_true rfl, rfl⟩
theorem kindK_at {i : Nat} (h : i < 6) : kindK (rkAt i) = rkAt i := by
 rcases lt6 h with rfl | rfl | rfl | rfl | rfl | rfl <;> rfl
theorem delayK_bd (k : Int) : 0 ≤ delayK k ∧ delayK k ≤ 5 := by unfold delayK; repeat' split <;> omega
theorem c111 (k : Int) : Pur Tryz.prog 111 [.int .u8 k] (.agg (ruleV k).toArray) := by
 refine Pcalls (n := 22) Tryz.func111 rfl rfl rfl fun W0 H0 => ?_
 refine SP.r2 ?_
 refine XL.alloc (by rfl) (fun b1 => ?_)
 refine XL.n5 ?_
 refine SP.r2 ?_
 refine XL.build (by rfl) (by rfl) ?_
 refine XL.build (by rfl) (by rfl) ?_
 refine XL.build (by rfl) (by rfl) ?_
 refine XL.build (by rfl) (by rfl) ?_
 refine XL.build (by rfl) (by rfl) ?_
 refine XL.build (by rfl) (by rfl) ?_
 refine XL.build (by rfl) (by rfl) ?_
 refine XL.m ?_
 refine XL.n2 ?_
 refine SP.block ?_
 refine SP.loop (X := Nat) (fun i => [(12, .int .i64 (i : Int)), (0, .int .u8 k), (2, .pointer (some ⟨b1, 0, none⟩)), (11, .agg #[.int .u8 4, .int .i64 1, .func (.func 125) #[] #[], .int .u8 5, .int .i64 1, .func (.func 125) #[] #[], .int .u8 8, .int .i64 1, .func (.func 125) #[] #[], .int .u8 13, .int .i64 2, .func (.func 126) #[] #[], .int .u8 14, .int .i64 3, .func (.func 127) #[] #[], .int .u8 12, .int .i64 5, .func (.func 128) #[] #[]])]) (fun i => [pt b1 (cel [.int .u8 0, .int .i64 0, .nilFunc] 186)]) (fun i => i ≤ 6 ∧ ∀ j, j < i → rkAt j ≠ k) (fun i => 6 - i) 0 ⟨by omega, fun j hj => by omega⟩ (by repeat' constructor) (Pk.drop (by repeat' constructor)) ?_
 rintro i ⟨hi, hne⟩
 refine SP.r2 ?_
 refine XL.lss_s rfl rfl rfl (fun h1 => ?_) (fun h1 => ?_)
 ·refine XL.n5 ?_
  refine SP.t ?_
  refine SP.skip ?_
  refine Jp.then_normal ?_
  refine SP.seq ?_
  refine SP.block ?_
  refine SP.r2 ?_
  refine XL.indexA (hE := inferInstance) rfl rfl rfl (by omega) (rules_at (show i < 6 by omega)) rfl ?_
  refine XL.alloc (by rfl) (fun b2 => ?_)
  refine XL.sA ?_
  refine XL.n4 ?_
  refine XL.f ?_
  refine XL.l ?_
  refine XL.m ?_
  refine XL.eql_s rfl rfl rfl (fun hg => ?_) (fun hg => ?_)
  ·refine XL.n2 ?_
   refine SP.t ?_
   refine SP.r2 ?_
   refine XL.lA ?_
   refine XL.sA ?_
   refine XL.n2 ?_
   refine SP.ret ?_
   refine Jp.block_ret ?_
   refine Jp.then_ret ?_
   refine Jp.then_ret ?_
   refine Jp.block_ret ?_
   refine Jp.then_ret ?_
   have hg' : rkAt i = k := by rw [← kindK_at (show i < 6 by omega)]; exact hg
   subst hg'
   refine Jp.purc (.inr rfl) rfl (Res.cellA (by rfl)) rfl
  ·refine XL.n2 ?_
   refine SP.f ?_
   refine SP.skip ?_
   refine Jp.block_normal ?_
   refine Jp.then_normal ?_
   refine SP.region ?_
   refine XL.add_i64 rfl rfl (by omega) (by omega) rfl ?_
   refine XL.m ?_
   refine XL.nil ?_
   have hg' : rkAt i ≠ k := by rw [← kindK_at (show i < 6 by omega)]; exact hg
   refine Jp.rd (i + 1) ⟨by omega, fun j hj => by rcases Nat.lt_succ_iff_lt_or_eq.1 hj with g | g; exact hne j g; subst g; exact hg'⟩ (by omega)
 ·refine XL.n5 ?_
  refine SP.f ?_
  refine SP.exit ?_
  refine Jp.then_exit ?_
  refine Jp.then_exit ?_
  refine Jp.block_here ?_
  refine Jp.n4 ?_
  refine XL.build (by rfl) (by rfl) ?_
  refine XL.sA ?_
  refine XL.n2 ?_
  refine SP.ret ?_
  obtain rfl : i = 6 := by omega
  refine Jp.purc (.inr rfl) rfl (Res.cellA (by rfl)) (by rw [ruleV_def k hne])
theorem c81 (k : Int) : Pur Tryz.prog 81 [.int .u8 k] (.int .i64 (delayK k)) := by
 refine Pcalls (n := 6) Tryz.func81 rfl rfl rfl fun W0 H0 => ?_
 refine SP.r2 ?_
 refine XL.a ?_
 refine XL.n4 ?_
 refine XL.m ?_
 refine XL.cp rfl (c111 k) rfl ?_
 refine XL.field (by rfl) (by rfl) ?_
 refine XL.a ?_
 refine XL.n2 ?_
 refine SP.ret ?_
 refine Jp.pur1 (.inr rfl) rfl rfl rfl
theorem c129 (n : Nr) : Tri Tryz.prog 129 [.agg n.cs.toArray] [] (DeedR n) := by
 refine Pcalls (n := 4) Tryz.func129 rfl rfl rfl fun W0 H0 => ?_
 refine SP.r2 ?_
 refine XL.boxA rfl rfl (fun b1 => ?_)
 refine XL.alloc (by rfl) (fun b2 => ?_)
 refine XL.n4 ?_
 refine XL.build (by rfl) (by rfl) ?_
 refine XL.sA ?_
 refine XL.n2 ?_
 refine SP.ret ?_
 exact Jp.endcG (.inr rfl) rfl (Res.cellA (by rfl)) (fun h _ => star_nilS (E := 209) (k := 3) h (star_nil h)) ⟨none, 0, 0, [], _, _, rfl, DeedOk.nil n (by omega), rfl⟩
theorem c_next (n : Nr) (hn : n.Ok) (k : Int) : Fun Tryz.prog (nextK k) ∧ Tri Tryz.prog (nextK k) [.agg n.cs.toArray] [] (DeedR n) := by
 unfold nextK
 repeat' split
 all_goals first | exact ⟨inferInstance, c125 n hn⟩ | exact ⟨inferInstance, c126 n hn⟩ | exact ⟨inferInstance, c127 n hn⟩ | exact ⟨inferInstance, c128 n hn⟩ | exact ⟨inferInstance, c129 n⟩
theorem c116 (n : Nr) (hn : n.Ok) : Tri Tryz.prog 116 [.agg n.cs.toArray] [] (DeedR n) := by
 refine Pcalls (n := 10) Tryz.func116 rfl rfl rfl fun W0 H0 => ?_
 refine SP.r2 ?_
 refine XL.boxA rfl rfl (fun b1 => ?_)
 refine XL.alloc (by rfl) (fun b2 => ?_)
 refine XL.n5 ?_
 refine SP.tail 6 Tryz.fol (by kernel_rfl) ?_
 refine XL.f ?_
 refine XL.f ?_
 refine XL.l ?_
 refine XL.cp rfl (c111 _) rfl ?_
 refine XL.field (by rfl) (by rfl) ?_
 refine XL.lA ?_
 refine XL.nilq_tail ?_
 refine XL.vw (hf := (c_next n hn n.self.a).1) (v1 := []) (v2 := []) rfl rfl (c_next n hn n.self.a).2 (Pk.nil _) rfl ?_
 rintro _ _ ⟨a, m, c, l, ag, dl, rfl, hD, rfl⟩
 refine XL.app1 ?_
 refine XL.sA ?_
 refine XL.n2 ?_
 refine SP.ret ?_
 exact Jp.endcG (.inr rfl) rfl (Res.cellA (by rfl)) (Pk.drop (Γ1 := [CgS (.slice a m c) l]) (by repeat' constructor)) ⟨_, _, _, l, _, _, rfl, hD, rfl⟩
end Go.Proofs

namespace Go.Proofs
open Go.Bk
theorem getD_rng {l : List C2} (h : ∀ x ∈ l, 0 ≤ x.a ∧ x.a ≤ 255 ∧ 0 ≤ x.b ∧ x.b ≤ 255) (i : Nat) : C2.rng ((l[i]?).getD ⟨0, 0⟩) := by
 cases e : l[i]? with
 | none => exact rng0
 | some x => exact h x (List.mem_of_getElem? e)
theorem land_rng (y : Int) : C2.rng (landAt y) ∧ C2.rng (landLit y) := by
 have := landK_bd y
 unfold C2.rng landAt landLit
 refine ⟨by simp; omega, ?_⟩
 simp only; split <;> omega
theorem FieldR.rng {r : Nat} {g : Fld} : ∀ h, FieldR r g h → ∀ p, MayQ p → C2.rng (g.cell p) ∧ C2.rng (g.light p) := fun h ⟨L, hL, hA, _⟩ p hp => by
 rw [hA.cell p hp, hA.light p hp]
 cases hc : getM (keyed L) (spotP p) with
 | none => exact land_rng p.y
 | some c =>
  obtain ⟨A, B, b, rfl, _, _⟩ := getM_split hL hc
  have he := hL.all (spotP p, b, c) (by simp)
  exact ⟨getD_rng he.ok.rc _, getD_rng he.ok.rl _⟩
@[reducible] def stp (p : Pl) (d : Int) : Pl := ⟨stx d p.x, sty d p.y, stz d p.z⟩
@[reducible] def rv (m : Nat) : Value := .agg #[.iface 24 (mp m), mp m]
def Fld.wk (g : Fld) (p : Pl) (now d : Int) : Fld := if 0 < d then g.wake p (now + d) else g
theorem Fld.wk_pos {g : Fld} {p : Pl} {now d : Int} (h : 0 < d) : g.wk p now d = g.wake p (now + d) := if_pos h
theorem Fld.wk_neg {g : Fld} {p : Pl} {now d : Int} (h : ¬ 0 < d) : g.wk p now d = g := if_neg h
theorem c80 (m r : Nat) (s : St) (g : Fld) (p : Pl) (hp : MayQ p) (d : Int) (hd : d ≤ 5) (hnow : 0 ≤ s.now ∧ s.now ≤ 1099511627776) : Tri Tryz.prog 80 [rv m, plv p, .int .i64 d] [Mb m r s, FieldR r g] (fun v Γ' => v = .tuple #[] ∧ Γ' = [Mb m r s, FieldR r (g.wk p s.now d)]) := by
 refine Pcalls (n := 21) Tryz.func80 rfl rfl rfl fun W0 H0 => ?_
 refine SP.r2 ?_
 refine XL.boxA rfl rfl (fun b1 => ?_)
 refine XL.boxA rfl rfl (fun b2 => ?_)
 refine XL.n4 ?_
 refine XL.m ?_
 refine XL.gtr_s rfl rfl rfl (fun hd0 => ?_) (fun hd0 => ?_)
 ·refine XL.n2 ?_
  refine SP.t ?_
  refine SP.tail 12 Tryz.fol (by kernel_rfl) ?_
  refine XL.f ?_
  refine XL.l ?_
  refine XL.lA ?_
  refine XL.f ?_
  refine XL.l ?_
  refine XL.nilCheck rfl rfl ?_
  refine XL.f ?_
  refine XL.l ?_
  refine XL.m ?_
  refine XL.add_i64 rfl rfl (by omega) (by omega) rfl ?_
  refine XL.nilCheckI rfl rfl ?_
  refine XL.m ?_
  refine XL.nilq_tail ?_
  refine XL.iw rfl rfl (F_Wake m r s g p hp (s.now + d) (by omega)) (by repeat' constructor) rfl ?_
  rintro _ _ ⟨rfl, rfl⟩
  refine XL.app2 ?_
  refine XL.nil ?_
  exact Jp.go (Pk.drop (Γ1 := [Mb m r s, FieldR r (g.wake p (s.now + d))]) (by repeat' constructor)) (Jp.end0 (.inl rfl) rfl ⟨rfl, by rw [Fld.wk_pos hd0]⟩)
 ·refine XL.n2 ?_
  refine SP.f ?_
  refine SP.skip ?_
  exact Jp.go (Pk.drop (Γ1 := [Mb m r s, FieldR r (g)]) (by repeat' constructor)) (Jp.end0 (.inl rfl) rfl ⟨rfl, by rw [Fld.wk_neg hd0]⟩)
theorem rouse_t (m r : Nat) (s : St) (g : Fld) (p : Pl) (hp : MayQ p) (d : Int) (hd0 : 0 ≤ d) (hd5 : d ≤ 5) (hnow : 0 ≤ s.now ∧ s.now ≤ 1099511627776) (hq : MayQ (stp p d)) : Tri Tryz.prog 82 [rv m, plv p, .int .i64 d] [Mb m r s, FieldR r g] (fun v Γ' => v = .tuple #[] ∧ Γ' = [Mb m r s, FieldR r (g.wk (stp p d) s.now (delayK (g.cell (stp p d)).a))]) := by
 refine Pcalls (n := 24) Tryz.func82 rfl rfl rfl fun W0 H0 => ?_
 refine SP.r2 ?_
 refine XL.boxA rfl rfl (fun b1 => ?_)
 refine XL.boxA rfl rfl (fun b2 => ?_)
 refine XL.n4 ?_
 refine XL.lA ?_
 refine XL.m ?_
 refine XL.cp rfl (c_Step_t p.x p.y p.z d hd0 hd5 hp hq) rfl ?_
 refine XL.m ?_
 refine XL.x ?_
 refine XL.x ?_
 refine XL.alloc (by rfl) (fun b3 => ?_)
 refine XL.sA ?_
 refine XL.a ?_
 refine XL.n4 ?_
 refine XL.m ?_
 refine XL.n2 ?_
 refine SP.t ?_
 refine SP.tail 8 Tryz.fol (by kernel_rfl) ?_
 refine XL.lA ?_
 refine XL.lA ?_
 refine XL.f ?_
 refine XL.l ?_
 refine XL.lA ?_
 refine XL.ir (r := (g.cell (stp p d)).v) rfl rfl (F_Cell m r s g (stp p d) hq) (by repeat' constructor) rfl ?_
 refine XL.field (by rfl) (by rfl) ?_
 refine XL.cp rfl (c81 _) rfl ?_
 refine XL.nilq_tail ?_
 refine XL.cw rfl (c80 m r s g (stp p d) hq _ (delayK_bd _).2 hnow) (by repeat' constructor) rfl ?_
 rintro _ _ ⟨rfl, rfl⟩
 refine XL.app2 ?_
 refine XL.nil ?_
 exact Jp.go (Pk.drop (Γ1 := [Mb m r s, FieldR r (g.wk (stp p d) s.now (delayK (g.cell (stp p d)).a))]) (by repeat' constructor)) (Jp.end0 (.inl rfl) rfl ⟨rfl, rfl⟩)
theorem rouse_f (m r : Nat) (s : St) (g : Fld) (p : Pl) (hp : MayQ p) (d : Int) (hd0 : 0 ≤ d) (hd5 : d ≤ 5) (hnow : 0 ≤ s.now ∧ s.now ≤ 1099511627776) (hq : ¬ MayQ (stp p d)) : Tri Tryz.prog 82 [rv m, plv p, .int .i64 d] [Mb m r s, FieldR r g] (fun v Γ' => v = .tuple #[] ∧ Γ' = [Mb m r s, FieldR r g]) := by
 refine Pcalls (n := 24) Tryz.func82 rfl rfl rfl fun W0 H0 => ?_
 refine SP.r2 ?_
 refine XL.boxA rfl rfl (fun b1 => ?_)
 refine XL.boxA rfl rfl (fun b2 => ?_)
 refine XL.n4 ?_
 refine XL.lA ?_
 refine XL.m ?_
 refine XL.cp rfl (c_Step_f p.x p.y p.z d hd0 hd5 hp hq) rfl ?_
 refine XL.m ?_
 refine XL.x ?_
 refine XL.x ?_
 refine XL.alloc (by rfl) (fun b3 => ?_)
 refine XL.sA ?_
 refine XL.a ?_
 refine XL.n4 ?_
 refine XL.m ?_
 refine XL.n2 ?_
 refine SP.f ?_
 refine SP.skip ?_
 exact Jp.go (Pk.drop (Γ1 := [Mb m r s, FieldR r g]) (by repeat' constructor)) (Jp.end0 (.inl rfl) rfl ⟨rfl, rfl⟩)
theorem Jp.end3G {P : Program} {w0 : World} {h0 : Hp} {n : Nat} {L : Sl} {Γ Γ' : List Asn} {fn : Func} {e : Exit} {post : Value → List Asn → Prop} {r1 r2 r3 : ResultVar} {v1 v2 v3 : Value} (he : e = .normal ∨ e = .ret) (hr : fn.results = #[r1, r2, r3])
  (h1 : Res P w0 h0 L Γ r1 v1) (h2 : Res P w0 h0 L Γ r2 v2) (h3 : Res P w0 h0 L Γ r3 v3) (hΓ : ∀ h, star Γ h → star Γ' h) (hp : post (.tuple #[v1, v2, v3]) Γ') : Jp w0 h0 e (bodyPost P fn (Post w0 h0 post)) n L Γ := by
 intro a w f s
 have := Jp.end3 (post := fun v Δ => v = .tuple #[v1, v2, v3] ∧ Δ = Γ) he hr h1 h2 h3 ⟨rfl, rfl⟩ a w f s
 rcases he with rfl | rfl <;> (obtain ⟨hd, v, hv, v2, Δ, e1, ⟨e2, e3⟩, s'⟩ := this; subst e2; subst e3; exact ⟨hd, v, hv, _, Γ', e1, hp, s'.mono hΓ⟩)
theorem side_t (m r : Nat) (s : St) (g : Fld) (p : Pl) (hp : MayQ p) (d : Int) (hd0 : 0 ≤ d) (hd5 : d ≤ 5) (hq : MayQ (stp p d)) : Tri Tryz.prog 135 [rv m, plv p, .int .i64 d] [Mb m r s, FieldR r g] (fun v Γ' => v = .tuple #[(g.cell (stp p d)).v, plv (stp p d), .bool true] ∧ Γ' = [Mb m r s, FieldR r g]) := by
 refine Pcalls (n := 25) Tryz.func135 rfl rfl rfl fun W0 H0 => ?_
 refine SP.r2 ?_
 refine XL.boxA rfl rfl (fun b1 => ?_)
 refine XL.boxA rfl rfl (fun b2 => ?_)
 refine XL.alloc (by rfl) (fun b3 => ?_)
 refine XL.alloc (by rfl) (fun b4 => ?_)
 refine XL.a ?_
 refine XL.n5 ?_
 refine SP.r2 ?_
 refine XL.lA ?_
 refine XL.m ?_
 refine XL.cp rfl (c_Step_t p.x p.y p.z d hd0 hd5 hp hq) rfl ?_
 refine XL.m ?_
 refine XL.x ?_
 refine XL.x ?_
 refine XL.alloc (by rfl) (fun b5 => ?_)
 refine XL.sA ?_
 refine XL.a ?_
 refine XL.n4 ?_
 refine XL.m ?_
 refine XL.n2 ?_
 refine SP.t ?_
 refine SP.seq ?_
 refine SP.any (m := 8) Tryz.fol rfl ?_
 refine XA.tk (i := 0) rfl rfl rfl (fun _ _ _ => XL.fieldAddr (by rfl) (by rfl)) ?_
 refine XA.many [1, 2, 4] (by kernel_rfl) rfl ?_
 refine XO.cons (i := 1) rfl rfl ?_ ?_
 ·refine XL.l ?_
  refine XL.on ?_
  refine XA.two (i := 2) (j := 4) rfl rfl (by kernel_rfl) rfl rfl ?_ ?_
  ·refine XL.lA ?_
   refine XL.on ?_
   refine XA.two (i := 3) (j := 4) rfl rfl (by kernel_rfl) rfl rfl ?_ ?_
   ·refine XL.ir (r := (g.cell (stp p d)).v) rfl rfl (F_Cell m r s g (stp p d) hq) (by repeat' constructor) rfl ?_
    refine XL.on ?_
    refine XA.two (i := 4) (j := 5) rfl rfl (by kernel_rfl) rfl rfl ?_ ?_
    ·refine XL.lA ?_
     refine XL.on ?_
     refine XA.o 5 ?_
     refine XL.sA ?_
     refine XL.on ?_
     refine XA.o 6 ?_
     refine XL.sA ?_
     refine XL.on ?_
     refine XA.tk (i := 7) rfl rfl rfl (fun _ _ _ => XL.assign rfl rfl) ?_
     refine XA.done (by kernel_rfl) ?_
     refine Jp.then_normal ?_
     refine SP.ret ?_
     refine Jp.then_ret ?_
     exact Jp.end3G (.inr rfl) rfl (Res.cellA (by rfl)) (Res.cellA (by rfl)) rfl (Pk.drop (Γ1 := [Mb m r s, FieldR r g]) (by repeat' constructor)) ⟨rfl, rfl⟩
    ·refine XL.sA ?_
     refine XL.on ?_
     refine XA.o 4 ?_
     refine XL.lA ?_
     refine XL.on ?_
     refine XA.o 6 ?_
     refine XL.sA ?_
     refine XL.on ?_
     refine XA.tk (i := 7) rfl rfl rfl (fun _ _ _ => XL.assign rfl rfl) ?_
     refine XA.done (by kernel_rfl) ?_
     refine Jp.then_normal ?_
     refine SP.ret ?_
     refine Jp.then_ret ?_
     exact Jp.end3G (.inr rfl) rfl (Res.cellA (by rfl)) (Res.cellA (by rfl)) rfl (Pk.drop (Γ1 := [Mb m r s, FieldR r g]) (by repeat' constructor)) ⟨rfl, rfl⟩
   ·refine XL.lA ?_
    refine XL.on ?_
    refine XA.o 3 ?_
    refine XL.ir (r := (g.cell (stp p d)).v) rfl rfl (F_Cell m r s g (stp p d) hq) (by repeat' constructor) rfl ?_
    refine XL.on ?_
    refine XA.o 5 ?_
    refine XL.sA ?_
    refine XL.on ?_
    refine XA.o 6 ?_
    refine XL.sA ?_
    refine XL.on ?_
    refine XA.tk (i := 7) rfl rfl rfl (fun _ _ _ => XL.assign rfl rfl) ?_
    refine XA.done (by kernel_rfl) ?_
    refine Jp.then_normal ?_
    refine SP.ret ?_
    refine Jp.then_ret ?_
    exact Jp.end3G (.inr rfl) rfl (Res.cellA (by rfl)) (Res.cellA (by rfl)) rfl (Pk.drop (Γ1 := [Mb m r s, FieldR r g]) (by repeat' constructor)) ⟨rfl, rfl⟩
  ·refine XL.lA ?_
   refine XL.on ?_
   refine XA.o 2 ?_
   refine XL.lA ?_
   refine XL.on ?_
   refine XA.o 3 ?_
   refine XL.ir (r := (g.cell (stp p d)).v) rfl rfl (F_Cell m r s g (stp p d) hq) (by repeat' constructor) rfl ?_
   refine XL.on ?_
   refine XA.o 5 ?_
   refine XL.sA ?_
   refine XL.on ?_
   refine XA.o 6 ?_
   refine XL.sA ?_
   refine XL.on ?_
   refine XA.tk (i := 7) rfl rfl rfl (fun _ _ _ => XL.assign rfl rfl) ?_
   refine XA.done (by kernel_rfl) ?_
   refine Jp.then_normal ?_
   refine SP.ret ?_
   refine Jp.then_ret ?_
   exact Jp.end3G (.inr rfl) rfl (Res.cellA (by rfl)) (Res.cellA (by rfl)) rfl (Pk.drop (Γ1 := [Mb m r s, FieldR r g]) (by repeat' constructor)) ⟨rfl, rfl⟩
 refine XO.cons (i := 2) rfl rfl ?_ ?_
 ·refine XL.lA ?_
  refine XL.on ?_
  refine XA.two (i := 1) (j := 4) rfl rfl (by kernel_rfl) rfl rfl ?_ ?_
  ·refine XL.l ?_
   refine XL.on ?_
   refine XA.two (i := 3) (j := 4) rfl rfl (by kernel_rfl) rfl rfl ?_ ?_
   ·refine XL.ir (r := (g.cell (stp p d)).v) rfl rfl (F_Cell m r s g (stp p d) hq) (by repeat' constructor) rfl ?_
    refine XL.on ?_
    refine XA.two (i := 4) (j := 5) rfl rfl (by kernel_rfl) rfl rfl ?_ ?_
    ·refine XL.lA ?_
     refine XL.on ?_
     refine XA.o 5 ?_
     refine XL.sA ?_
     refine XL.on ?_
     refine XA.o 6 ?_
     refine XL.sA ?_
     refine XL.on ?_
     refine XA.tk (i := 7) rfl rfl rfl (fun _ _ _ => XL.assign rfl rfl) ?_
     refine XA.done (by kernel_rfl) ?_
     refine Jp.then_normal ?_
     refine SP.ret ?_
     refine Jp.then_ret ?_
     exact Jp.end3G (.inr rfl) rfl (Res.cellA (by rfl)) (Res.cellA (by rfl)) rfl (Pk.drop (Γ1 := [Mb m r s, FieldR r g]) (by repeat' constructor)) ⟨rfl, rfl⟩
    ·refine XL.sA ?_
     refine XL.on ?_
     refine XA.o 4 ?_
     refine XL.lA ?_
     refine XL.on ?_
     refine XA.o 6 ?_
     refine XL.sA ?_
     refine XL.on ?_
     refine XA.tk (i := 7) rfl rfl rfl (fun _ _ _ => XL.assign rfl rfl) ?_
     refine XA.done (by kernel_rfl) ?_
     refine Jp.then_normal ?_
     refine SP.ret ?_
     refine Jp.then_ret ?_
     exact Jp.end3G (.inr rfl) rfl (Res.cellA (by rfl)) (Res.cellA (by rfl)) rfl (Pk.drop (Γ1 := [Mb m r s, FieldR r g]) (by repeat' constructor)) ⟨rfl, rfl⟩
   ·refine XL.lA ?_
    refine XL.on ?_
    refine XA.o 3 ?_
    refine XL.ir (r := (g.cell (stp p d)).v) rfl rfl (F_Cell m r s g (stp p d) hq) (by repeat' constructor) rfl ?_
    refine XL.on ?_
    refine XA.o 5 ?_
    refine XL.sA ?_
    refine XL.on ?_
    refine XA.o 6 ?_
    refine XL.sA ?_
    refine XL.on ?_
    refine XA.tk (i := 7) rfl rfl rfl (fun _ _ _ => XL.assign rfl rfl) ?_
    refine XA.done (by kernel_rfl) ?_
    refine Jp.then_normal ?_
    refine SP.ret ?_
    refine Jp.then_ret ?_
    exact Jp.end3G (.inr rfl) rfl (Res.cellA (by rfl)) (Res.cellA (by rfl)) rfl (Pk.drop (Γ1 := [Mb m r s, FieldR r g]) (by repeat' constructor)) ⟨rfl, rfl⟩
  ·refine XL.lA ?_
   refine XL.on ?_
   refine XA.o 1 ?_
   refine XL.l ?_
   refine XL.on ?_
   refine XA.o 3 ?_
   refine XL.ir (r := (g.cell (stp p d)).v) rfl rfl (F_Cell m r s g (stp p d) hq) (by repeat' constructor) rfl ?_
   refine XL.on ?_
   refine XA.o 5 ?_
   refine XL.sA ?_
   refine XL.on ?_
   refine XA.o 6 ?_
   refine XL.sA ?_
   refine XL.on ?_
   refine XA.tk (i := 7) rfl rfl rfl (fun _ _ _ => XL.assign rfl rfl) ?_
   refine XA.done (by kernel_rfl) ?_
   refine Jp.then_normal ?_
   refine SP.ret ?_
   refine Jp.then_ret ?_
   exact Jp.end3G (.inr rfl) rfl (Res.cellA (by rfl)) (Res.cellA (by rfl)) rfl (Pk.drop (Γ1 := [Mb m r s, FieldR r g]) (by repeat' constructor)) ⟨rfl, rfl⟩
 refine XO.cons (i := 4) rfl rfl ?_ ?_
 ·refine XL.lA ?_
  refine XL.on ?_
  refine XA.two (i := 1) (j := 2) rfl rfl (by kernel_rfl) rfl rfl ?_ ?_
  ·refine XL.l ?_
   refine XL.on ?_
   refine XA.o 2 ?_
   refine XL.lA ?_
   refine XL.on ?_
   refine XA.o 3 ?_
   refine XL.ir (r := (g.cell (stp p d)).v) rfl rfl (F_Cell m r s g (stp p d) hq) (by repeat' constructor) rfl ?_
   refine XL.on ?_
   refine XA.o 5 ?_
   refine XL.sA ?_
   refine XL.on ?_
   refine XA.o 6 ?_
   refine XL.sA ?_
   refine XL.on ?_
   refine XA.tk (i := 7) rfl rfl rfl (fun _ _ _ => XL.assign rfl rfl) ?_
   refine XA.done (by kernel_rfl) ?_
   refine Jp.then_normal ?_
   refine SP.ret ?_
   refine Jp.then_ret ?_
   exact Jp.end3G (.inr rfl) rfl (Res.cellA (by rfl)) (Res.cellA (by rfl)) rfl (Pk.drop (Γ1 := [Mb m r s, FieldR r g]) (by repeat' constructor)) ⟨rfl, rfl⟩
  ·refine XL.lA ?_
   refine XL.on ?_
   refine XA.o 1 ?_
   refine XL.l ?_
   refine XL.on ?_
   refine XA.o 3 ?_
   refine XL.ir (r := (g.cell (stp p d)).v) rfl rfl (F_Cell m r s g (stp p d) hq) (by repeat' constructor) rfl ?_
   refine XL.on ?_
   refine XA.o 5 ?_
   refine XL.sA ?_
   refine XL.on ?_
   refine XA.o 6 ?_
   refine XL.sA ?_
   refine XL.on ?_
   refine XA.tk (i := 7) rfl rfl rfl (fun _ _ _ => XL.assign rfl rfl) ?_
   refine XA.done (by kernel_rfl) ?_
   refine Jp.then_normal ?_
   refine SP.ret ?_
   refine Jp.then_ret ?_
   exact Jp.end3G (.inr rfl) rfl (Res.cellA (by rfl)) (Res.cellA (by rfl)) rfl (Pk.drop (Γ1 := [Mb m r s, FieldR r g]) (by repeat' constructor)) ⟨rfl, rfl⟩
 exact XO.nil
theorem side_f (m r : Nat) (s : St) (g : Fld) (p : Pl) (hp : MayQ p) (d : Int) (hd0 : 0 ≤ d) (hd5 : d ≤ 5) (hq : ¬ MayQ (stp p d)) : Tri Tryz.prog 135 [rv m, plv p, .int .i64 d] [Mb m r s, FieldR r g] (fun v Γ' => v = .tuple #[.agg #[.int .u8 1, .int .u8 0], .agg #[.int .i64 0, .int .i64 0, .int .i64 0], .bool false] ∧ Γ' = [Mb m r s, FieldR r g]) := by
 refine Pcalls (n := 25) Tryz.func135 rfl rfl rfl fun W0 H0 => ?_
 refine SP.r2 ?_
 refine XL.boxA rfl rfl (fun b1 => ?_)
 refine XL.boxA rfl rfl (fun b2 => ?_)
 refine XL.alloc (by rfl) (fun b3 => ?_)
 refine XL.alloc (by rfl) (fun b4 => ?_)
 refine XL.a ?_
 refine XL.n5 ?_
 refine SP.r2 ?_
 refine XL.lA ?_
 refine XL.m ?_
 refine XL.cp rfl (c_Step_f p.x p.y p.z d hd0 hd5 hp hq) rfl ?_
 refine XL.m ?_
 refine XL.x ?_
 refine XL.x ?_
 refine XL.alloc (by rfl) (fun b5 => ?_)
 refine XL.sA ?_
 refine XL.a ?_
 refine XL.n4 ?_
 refine XL.m ?_
 refine XL.n2 ?_
 refine SP.f ?_
 refine SP.skip ?_
 refine Jp.n4 ?_
 refine XL.build (by rfl) (by rfl) ?_
 refine XL.build (by rfl) (by rfl) ?_
 refine XL.sA ?_
 refine XL.sA ?_
 refine XL.a ?_
 refine XL.n2 ?_
 refine SP.ret ?_
 exact Jp.end3G (.inr rfl) rfl (Res.cellA (by rfl)) (Res.cellA (by rfl)) rfl (Pk.drop (Γ1 := [Mb m r s, FieldR r g]) (by repeat' constructor)) ⟨rfl, rfl⟩
def sideC (g : Fld) (p : Pl) (i : Nat) : C2 := if MayQ (stp p (i : Int)) then g.cell (stp p (i : Int)) else ⟨1, 0⟩
theorem sideC_t {g : Fld} {p : Pl} {i : Nat} (h : MayQ (stp p (i : Int))) : sideC g p i = g.cell (stp p (i : Int)) := if_pos h
theorem sideC_f {g : Fld} {p : Pl} {i : Nat} (h : ¬ MayQ (stp p (i : Int))) : sideC g p i = ⟨1, 0⟩ := if_neg h
theorem rng1 : C2.rng ⟨1, 0⟩ := by simp [C2.rng]
theorem Nr.set_s {n : Nr} (hn : n.Ok) {i : Nat} {x : C2} (hx : C2.rng x) : Nr.Ok { n with s := fun j => if j = i then x else n.s j } := ⟨hn.self, fun j hj => by
 show C2.rng (if j = i then x else n.s j)
 split
 ·exact hx
 ·exact hn.s j hj, hn.u, hn.light, hn.draw⟩
theorem Nr.set_u {n : Nr} (hn : n.Ok) {i : Nat} {x : C2} (hx : C2.rng x) : Nr.Ok { n with u := fun j => if j = i then x else n.u j } := ⟨hn.self, hn.s, fun j hj => by
 show C2.rng (if j = i then x else n.u j)
 split
 ·exact hx
 ·exact hn.u j hj, hn.light, hn.draw⟩
structure NrIs (g : Fld) (p : Pl) (n : Nr) (i : Nat) : Prop where
 ok : n.Ok
 self : n.self = g.cell p
 s : ∀ j, j < i → n.s j = sideC g p j
theorem NrIs.next {g : Fld} {p : Pl} {n : Nr} {i : Nat} (h : NrIs g p n i) {x : C2} (hx : C2.rng x) (e : x = sideC g p i) : NrIs g p { n with s := fun j => if j = i then x else n.s j } (i + 1) := ⟨Nr.set_s h.ok hx, h.self, fun j hj => by
 show (if j = i then x else n.s j) = _
 split
 ·rename_i he; rw [he]; exact e
 ·exact h.s j (by omega)⟩
theorem NrIs.under {g : Fld} {p : Pl} {n : Nr} {i : Nat} (h : NrIs g p n i) {j : Nat} {x : C2} (hx : C2.rng x) : NrIs g p { n with u := fun k => if k = j then x else n.u k } i := ⟨Nr.set_u h.ok hx, h.self, h.s⟩
theorem maxR {a b : Int} (ha : 0 ≤ a ∧ a ≤ 255) (hb : 0 ≤ b ∧ b ≤ 255) : 0 ≤ (if b > a then b else a) ∧ (if b > a then b else a) ≤ 255 := by split <;> omega
theorem c117 (m r : Nat) (s : St) (g : Fld) (p : Pl) (hp : MayQ p) : Tri Tryz.prog 117 [rv m, plv p] [Mb m r s, FieldR r g] (fun v Γ' => ∃ n : Nr, NrIs g p n 6 ∧ v = .agg n.cs.toArray ∧ Γ' = [Mb m r s, FieldR r g]) := by
 refine Pcalls (n := 71) Tryz.func117 rfl rfl rfl fun W0 H0 => ?_
 refine SP.r2 ?_
 refine XL.boxA rfl rfl (fun b1 => ?_)
 refine XL.boxA rfl rfl (fun b2 => ?_)
 refine XL.alloc (by rfl) (fun b3 => ?_)
 refine XL.n4 ?_
 refine XL.f ?_
 refine XL.l ?_
 refine XL.lA ?_
 refine XL.ir (r := (g.light p).v) rfl rfl (F_Light m r s g p hp) (by repeat' constructor) rfl ?_
 refine XL.alloc (by rfl) (fun b4 => ?_)
 refine XL.sA ?_
 refine XL.n5 ?_
 refine SP.tailA 22 Tryz.fol (by kernel_rfl) rfl ?_
 refine XL.f ?_
 refine XL.l ?_
 refine XL.lA ?_
 refine XL.ir (r := (g.cell p).v) rfl rfl (F_Cell m r s g p hp) (by repeat' constructor) rfl ?_
 refine XL.f ?_
 refine XL.l ?_
 refine XL.f ?_
 refine XL.l ?_
 refine XL.max2 rfl rfl rfl rfl ?_
 refine XL.f ?_
 refine XL.l ?_
 refine XL.nilCheck rfl rfl ?_
 refine XL.f ?_
 refine XL.l ?_
 refine XL.lA ?_
 refine XL.f ?_
 refine XL.l ?_
 refine XL.nilCheck rfl rfl ?_
 refine XL.f ?_
 refine XL.l ?_
 refine XL.cp rfl (c134 s.seed p s.now) rfl ?_
 refine XL.build (by rfl) (by rfl) ?_
 refine XL.nilq_tailA rfl (fun b5 => ?_)
 refine XL.sA ?_
 refine XL.n5 ?_
 refine SP.r2 ?_
 refine XL.m ?_
 refine XL.n2 ?_
 refine SP.block ?_
 refine SP.know (Rm.know (by repeat' constructor) FieldR.rng) ?_
 intro hrg
 have hrp := hrg p hp
 have hrp : C2.rng (g.cell p) ∧ (0 ≤ (g.light p).a ∧ (g.light p).a ≤ 255 ∧ 0 ≤ (g.light p).b ∧ (g.light p).b ≤ 255) := hrp
 refine SP.loop (X := Nat × Nr) (fun q => [(37, .int .i64 (q.1 : Int)), (2, .pointer (some ⟨b1, 0, none⟩)), (3, .pointer (some ⟨b2, 0, none⟩)), (4, .pointer (some ⟨b3, 0, none⟩)), (6, .pointer (some ⟨b5, 0, none⟩))]) (fun q => [pt b1 (cel [.iface 24 (mp m), mp m] 114), pt b2 (cel [.int .i64 p.x, .int .i64 p.y, .int .i64 p.z] 49), pt b3 (cel zNr.cs 206), pt b5 (cel (q.2).cs 206), Mb m r s, FieldR r g]) (fun q => q.1 ≤ 6 ∧ NrIs g p q.2 q.1) (fun q => 6 - q.1) (0, ⟨g.cell p, fun _ => ⟨0, 0⟩, fun _ => ⟨0, 0⟩, (if (g.light p).b > (g.light p).a then (g.light p).b else (g.light p).a), hashU s.seed p s.now⟩) ⟨Nat.zero_le _, ⟨hrp.1, fun _ _ => rng0, fun _ _ => rng0, maxR ⟨hrp.2.1, hrp.2.2.1⟩ ⟨hrp.2.2.2.1, hrp.2.2.2.2⟩, hashU_bd _ _ _⟩, rfl, fun j hj => absurd hj (Nat.not_lt_zero j)⟩ (by repeat' constructor) (Pk.drop (by repeat' constructor)) ?_
 rintro ⟨i, n⟩ ⟨hi, hn⟩
 dsimp only at *
 refine SP.r2 ?_
 refine XL.lss_s rfl rfl rfl (fun hc => ?_) (fun hc => ?_)
 ·refine XL.n5 ?_
  refine SP.t ?_
  refine SP.skip ?_
  refine Jp.then_normal ?_
  refine SP.seq ?_
  refine SP.block ?_
  refine SP.r2 ?_
  refine XL.m ?_
  refine XL.a ?_
  refine XL.n4 ?_
  refine XL.lA ?_
  refine XL.lA ?_
  refine XL.m ?_
  by_cases hq : MayQ (stp p (i : Int))
  ·refine XL.cr rfl (side_t m r s g p hp (i : Int) (by omega) (by omega) hq) (by repeat' constructor) rfl ?_
   refine XL.m ?_
   refine XL.x ?_
   refine XL.x ?_
   refine XL.x ?_
   refine XL.alloc (by rfl) (fun b6 => ?_)
   refine XL.alloc (by rfl) (fun b7 => ?_)
   refine XL.sA ?_
   refine XL.sA ?_
   refine XL.a ?_
   refine XL.n4 ?_
   refine XL.m ?_
   refine XL.lA ?_
   refine XL.f ?_
   refine XL.indexArr (r := 2 + i * 2) rfl rfl (by omega) (by omega) (by simp) rfl ?_
   obtain ⟨n1, hn1, e1⟩ : ∃ n1 : Nr, NrIs g p n1 (i + 1) ∧ n1 = { n with s := fun j => if j = i then (g.cell (stp p (i : Int))) else n.s j } := ⟨_, hn.next ((hrg _ hq).1) (sideC_t hq).symm, rfl⟩
   refine XL.storeA (vs := C2.cs (g.cell (stp p (i : Int)))) (hs := Nr.side_st n n1 (show i < 6 by omega) (g.cell (stp p (i : Int))) (by rw [e1]) (by rw [e1]; exact fun j _ => rfl) (by rw [e1]; exact fun j _ => rfl) (by rw [e1]) (by rw [e1])) rfl rfl rfl rfl ?_
   refine XL.n5 ?_
   refine SP.r2 ?_
   refine XL.m ?_
   refine XL.geq_s rfl rfl rfl (fun h4 => ?_) (fun h4 => ?_)
   ·refine XL.n2 ?_
    refine SP.t ?_
    refine SP.exit ?_
    refine Jp.then_exit ?_
    refine Jp.block_here ?_
    refine Jp.then_normal ?_
    refine SP.region ?_
    refine XL.add_i64 rfl rfl (by omega) (by omega) rfl ?_
    refine XL.m ?_
    refine XL.nil ?_
    refine Jp.rd (i + 1, n1) ⟨by show i + 1 ≤ 6; omega, hn1⟩ (by show 6 - (i + 1) < 6 - i; omega)
   ·refine XL.n2 ?_
    refine SP.f ?_
    refine SP.skip ?_
    refine Jp.n4 ?_
    refine XL.m ?_
    refine XL.build (by rfl) (by rfl) ?_
    refine XL.f ?_
    refine XL.indexArr (r := 14 + i * 2) rfl rfl (by omega) (by omega) (by simp) rfl ?_
    obtain ⟨n2, hn2, e2⟩ : ∃ n2 : Nr, NrIs g p n2 (i + 1) ∧ n2 = { n1 with u := fun j => if j = i then ⟨1, 0⟩ else n1.u j } := ⟨_, hn1.under rng1, rfl⟩
    refine XL.storeA (vs := C2.cs ⟨1, 0⟩) (hs := Nr.under_st n1 n2 (show i < 4 by omega) ⟨1, 0⟩ (by rw [e2]) (by rw [e2]; exact fun j _ => rfl) (by rw [e2]; exact fun j _ => rfl) (by rw [e2]) (by rw [e2])) rfl rfl rfl rfl ?_
    refine XL.n4 ?_
    refine XL.m ?_
    refine XL.n2 ?_
    refine SP.t ?_
    refine SP.region ?_
    refine XL.m ?_
    refine XL.lA ?_
    refine XL.lA ?_
    by_cases hq2 : MayQ (stp (stp p (i : Int)) 5)
    ·refine XL.cr rfl (side_t m r s g (stp p (i : Int)) hq 5 (by decide) (by decide) hq2) (by repeat' constructor) rfl ?_
     refine XL.m ?_
     refine XL.x ?_
     refine XL.x ?_
     refine XL.x ?_
     refine XL.f ?_
     refine XL.indexArr (r := 14 + i * 2) rfl rfl (by omega) (by omega) (by simp) rfl ?_
     obtain ⟨n3, hn3, e3⟩ : ∃ n3 : Nr, NrIs g p n3 (i + 1) ∧ n3 = { n2 with u := fun j => if j = i then g.cell (stp (stp p (i : Int)) 5) else n2.u j } := ⟨_, hn2.under (hrg _ hq2).1, rfl⟩
     refine XL.storeA (vs := C2.cs (g.cell (stp (stp p (i : Int)) 5))) (hs := Nr.under_st n2 n3 (show i < 4 by omega) (g.cell (stp (stp p (i : Int)) 5)) (by rw [e3]) (by rw [e3]; exact fun j _ => rfl) (by rw [e3]; exact fun j _ => rfl) (by rw [e3]) (by rw [e3])) rfl rfl rfl rfl ?_
     clear e2 hn2
     clear hn1 e1
     refine XL.nil ?_
     refine Jp.block_normal ?_
     refine Jp.then_normal ?_
     refine SP.region ?_
     refine XL.add_i64 rfl rfl (by omega) (by omega) rfl ?_
     refine XL.m ?_
     refine XL.nil ?_
     refine Jp.rd (i + 1, n3) ⟨by show i + 1 ≤ 6; omega, hn3⟩ (by show 6 - (i + 1) < 6 - i; omega)
    ·refine XL.cr rfl (side_f m r s g (stp p (i : Int)) hq 5 (by decide) (by decide) hq2) (by repeat' constructor) rfl ?_
     refine XL.m ?_
     refine XL.x ?_
     refine XL.x ?_
     refine XL.x ?_
     refine XL.f ?_
     refine XL.indexArr (r := 14 + i * 2) rfl rfl (by omega) (by omega) (by simp) rfl ?_
     obtain ⟨n3, hn3, e3⟩ : ∃ n3 : Nr, NrIs g p n3 (i + 1) ∧ n3 = { n2 with u := fun j => if j = i then ⟨1, 0⟩ else n2.u j } := ⟨_, hn2.under rng1, rfl⟩
     refine XL.storeA (vs := C2.cs ⟨1, 0⟩) (hs := Nr.under_st n2 n3 (show i < 4 by omega) ⟨1, 0⟩ (by rw [e3]) (by rw [e3]; exact fun j _ => rfl) (by rw [e3]; exact fun j _ => rfl) (by rw [e3]) (by rw [e3])) rfl rfl rfl rfl ?_
     clear e2 hn2
     clear hn1 e1
     refine XL.nil ?_
     refine Jp.block_normal ?_
     refine Jp.then_normal ?_
     refine SP.region ?_
     refine XL.add_i64 rfl rfl (by omega) (by omega) rfl ?_
     refine XL.m ?_
     refine XL.nil ?_
     refine Jp.rd (i + 1, n3) ⟨by show i + 1 ≤ 6; omega, hn3⟩ (by show 6 - (i + 1) < 6 - i; omega)
  ·refine XL.cr rfl (side_f m r s g p hp (i : Int) (by omega) (by omega) hq) (by repeat' constructor) rfl ?_
   refine XL.m ?_
   refine XL.x ?_
   refine XL.x ?_
   refine XL.x ?_
   refine XL.alloc (by rfl) (fun b8 => ?_)
   refine XL.alloc (by rfl) (fun b9 => ?_)
   refine XL.sA ?_
   refine XL.sA ?_
   refine XL.a ?_
   refine XL.n4 ?_
   refine XL.m ?_
   refine XL.lA ?_
   refine XL.f ?_
   refine XL.indexArr (r := 2 + i * 2) rfl rfl (by omega) (by omega) (by simp) rfl ?_
   obtain ⟨n1, hn1, e1⟩ : ∃ n1 : Nr, NrIs g p n1 (i + 1) ∧ n1 = { n with s := fun j => if j = i then (⟨1, 0⟩ : C2) else n.s j } := ⟨_, hn.next (rng1) (sideC_f hq).symm, rfl⟩
   refine XL.storeA (vs := C2.cs (⟨1, 0⟩ : C2)) (hs := Nr.side_st n n1 (show i < 6 by omega) (⟨1, 0⟩ : C2) (by rw [e1]) (by rw [e1]; exact fun j _ => rfl) (by rw [e1]; exact fun j _ => rfl) (by rw [e1]) (by rw [e1])) rfl rfl rfl rfl ?_
   refine XL.n5 ?_
   refine SP.r2 ?_
   refine XL.m ?_
   refine XL.geq_s rfl rfl rfl (fun h4 => ?_) (fun h4 => ?_)
   ·refine XL.n2 ?_
    refine SP.t ?_
    refine SP.exit ?_
    refine Jp.then_exit ?_
    refine Jp.block_here ?_
    refine Jp.then_normal ?_
    refine SP.region ?_
    refine XL.add_i64 rfl rfl (by omega) (by omega) rfl ?_
    refine XL.m ?_
    refine XL.nil ?_
    refine Jp.rd (i + 1, n1) ⟨by show i + 1 ≤ 6; omega, hn1⟩ (by show 6 - (i + 1) < 6 - i; omega)
   ·refine XL.n2 ?_
    refine SP.f ?_
    refine SP.skip ?_
    refine Jp.n4 ?_
    refine XL.m ?_
    refine XL.build (by rfl) (by rfl) ?_
    refine XL.f ?_
    refine XL.indexArr (r := 14 + i * 2) rfl rfl (by omega) (by omega) (by simp) rfl ?_
    obtain ⟨n2, hn2, e2⟩ : ∃ n2 : Nr, NrIs g p n2 (i + 1) ∧ n2 = { n1 with u := fun j => if j = i then ⟨1, 0⟩ else n1.u j } := ⟨_, hn1.under rng1, rfl⟩
    refine XL.storeA (vs := C2.cs ⟨1, 0⟩) (hs := Nr.under_st n1 n2 (show i < 4 by omega) ⟨1, 0⟩ (by rw [e2]) (by rw [e2]; exact fun j _ => rfl) (by rw [e2]; exact fun j _ => rfl) (by rw [e2]) (by rw [e2])) rfl rfl rfl rfl ?_
    refine XL.n4 ?_
    refine XL.m ?_
    refine XL.n2 ?_
    refine SP.f ?_
    refine SP.skip ?_
    refine Jp.block_normal ?_
    refine Jp.then_normal ?_
    refine SP.region ?_
    refine XL.add_i64 rfl rfl (by omega) (by omega) rfl ?_
    refine XL.m ?_
    refine XL.nil ?_
    refine Jp.rd (i + 1, n2) ⟨by show i + 1 ≤ 6; omega, hn2⟩ (by show 6 - (i + 1) < 6 - i; omega)
 ·refine XL.n5 ?_
  refine SP.f ?_
  refine SP.exit ?_
  refine Jp.then_exit ?_
  refine Jp.then_exit ?_
  refine Jp.block_here ?_
  refine Jp.n4 ?_
  refine XL.lA ?_
  refine XL.sA ?_
  refine XL.n2 ?_
  refine SP.ret ?_
  obtain rfl : i = 6 := by omega
  exact Jp.endcG (.inr rfl) rfl (Res.cellA (by rfl)) (Pk.drop (Γ1 := [Mb m r s, FieldR r g]) (by repeat' constructor)) ⟨n, hn, rfl, rfl⟩
end Go.Proofs

