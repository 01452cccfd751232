/- A part of the proof that ModelLedger returns true for every input: what the last part leans on. No condition. -/
import Derived.Ground.SlsfProg
import Derived.Shelf.SlGeneric
import Derived.Shelf.SlSortCmp.NoneTotal
import Derived.Test.YtebkegcjgkkcgaaGreatP03
set_option linter.unusedVariables false
set_option linter.unusedSimpArgs false
set_option linter.unusedSectionVars false
set_option linter.deprecated false
set_option maxHeartbeats 1000000
namespace Go.Proofs
open Go.Bk
@[reducible] def PlS (v : Value) (l : List Pl) : Asn := Sl' 49 3 v l.length (l.flatMap Pl.cs)
theorem PlS_snoc (v : Value) (l : List Pl) (x : Pl) : Sl' 49 3 v (l.length + 1) (l.flatMap Pl.cs ++ x.cs) = PlS v (l ++ [x]) := by unfold PlS; simp
def Nbr (c : Pl) (d : Int) (q : Pl) : Prop := MayQ q ∧ -d ≤ q.x - c.x ∧ q.x - c.x ≤ d ∧ -d ≤ q.z - c.z ∧ q.z - c.z ≤ d
theorem Nbr.mono {c : Pl} {d e : Int} {q : Pl} (h : Nbr c d q) (hd : d ≤ e) : Nbr c e q := ⟨h.1, by have := h.2; omega⟩
theorem Nbr.step {c : Pl} {d k : Int} {q : Pl} (h : Nbr c d q) (hm : MayQ (stp q k)) : Nbr c (d + 1) (stp q k) := by
 have h2 := h.2
 refine ⟨hm, ?_⟩
 simp only [stp, stx, stz]
 repeat' split
 all_goals omega
def clrC (x : C2) : Prop := MayC x.a x.b ∧ KClr x.a
instance (x : C2) : Decidable (clrC x) := by unfold clrC; infer_instance
theorem c122 (q : Pl) (hp : MayQ q) : Tri Tryz.prog 122 [plv q] [] (fun v Γ' => ∃ l : List Pl, l.length ≤ 6 ∧ (∀ x ∈ l, ∃ d, 0 ≤ d ∧ d ≤ 5 ∧ x = stp q d ∧ MayQ x) ∧ Γ' = [PlS v l]) := by
 refine Pcalls (n := 22) Tryz.func122 rfl rfl rfl fun W0 H0 => ?_
 refine SP.r2 ?_
 refine XL.boxA rfl rfl (fun b1 => ?_)
 refine XL.a ?_
 refine XL.n5 ?_
 refine SP.r2 ?_
 refine XL.m ?_
 refine XL.n2 ?_
 refine SP.block ?_
 refine SP.gam (star_nilS (E := 49) (k := 3)) ?_
 refine SP.loop (X := (Nat × Value) × List Pl) (fun p => [(6, .int .i64 (p.1.1 : Int)), (1, .pointer (some ⟨b1, 0, none⟩)), (2, p.1.2)]) (fun p => [pt b1 (cel [.int .i64 q.x, .int .i64 q.y, .int .i64 q.z] 49), PlS p.1.2 p.2]) (fun p => p.1.1 ≤ 6 ∧ p.2.length ≤ p.1.1 ∧ ∀ x ∈ p.2, ∃ d, 0 ≤ d ∧ d ≤ 5 ∧ x = stp q d ∧ MayQ x) (fun p => 6 - p.1.1) ((0, .slice none 0 0), []) ⟨Nat.zero_le _, Nat.le_refl _, fun x hx => by cases hx⟩ (by repeat' constructor) (Pk.drop (by repeat' constructor)) ?_
 rintro ⟨⟨i, v⟩, l⟩ ⟨hi, hl, hx⟩
 dsimp only at *
 refine SP.r2 ?_
 refine XL.lss_s rfl rfl rfl (fun hc => ?_) (fun hc => ?_)
 ·refine XL.n5 ?_
  refine SP.t ?_
  refine SP.skip ?_
  refine Jp.then_normal ?_
  refine SP.seq ?_
  refine SP.block ?_
  refine SP.r2 ?_
  refine XL.m ?_
  refine XL.a ?_
  refine XL.n4 ?_
  refine XL.lA ?_
  refine XL.m ?_
  by_cases hq : MayQ (stp q (i : Int))
  ·refine XL.cp rfl (c_Step_t q.x q.y q.z (i : Int) (by omega) (by omega) hp hq) rfl ?_
   refine XL.m ?_
   refine XL.x ?_
   refine XL.x ?_
   refine XL.alloc (by rfl) (fun b2 => ?_)
   refine XL.sA ?_
   refine XL.a ?_
   refine XL.n4 ?_
   refine XL.m ?_
   refine XL.n2 ?_
   refine SP.t ?_
   refine SP.region ?_
   refine XL.m ?_
   refine XL.lA ?_
   refine XL.buildSlice (by rfl) (by rfl) (by rfl) (by decide) rfl (fun b3 => ?_)
   refine XL.append (k := 3) (z := [.int .i64 0, .int .i64 0, .int .i64 0]) (bt := 24) (xs := l.flatMap Pl.cs) (ys := Pl.cs (stp q (i : Int))) (m := l.length) (m2 := 1) rfl rfl ⟨_, Tryz.underlying61⟩ (by repeat' constructor) rfl rfl rfl (by omega) rfl rfl (fun v2 => ?_)
   rw [PlS_snoc v2 l (stp q (i : Int))]
   refine XL.a ?_
   refine XL.nil ?_
   refine Jp.block_normal ?_
   refine Jp.then_normal ?_
   refine SP.region ?_
   refine XL.add_i64 rfl rfl (by omega) (by omega) rfl ?_
   refine XL.m ?_
   refine XL.nil ?_
   refine Jp.rd ((i + 1, v2), l ++ [stp q (i : Int)]) ⟨by show i + 1 ≤ 6; omega, by show (l ++ [stp q (i : Int)]).length ≤ i + 1; simp; omega, fun x hx' => (List.mem_append.1 hx').elim (hx x) fun h1 => ⟨(i : Int), by omega, by omega, by simpa using h1, by rw [show x = stp q (i : Int) by simpa using h1]; exact hq⟩⟩ (by show 6 - (i + 1) < 6 - i; omega)
  ·refine XL.cp rfl (c_Step_f q.x q.y q.z (i : Int) (by omega) (by omega) hp hq) rfl ?_
   refine XL.m ?_
   refine XL.x ?_
   refine XL.x ?_
   refine XL.alloc (by rfl) (fun b3 => ?_)
   refine XL.sA ?_
   refine XL.a ?_
   refine XL.n4 ?_
   refine XL.m ?_
   refine XL.n2 ?_
   refine SP.f ?_
   refine SP.skip ?_
   refine Jp.block_normal ?_
   refine Jp.then_normal ?_
   refine SP.region ?_
   refine XL.add_i64 rfl rfl (by omega) (by omega) rfl ?_
   refine XL.m ?_
   refine XL.nil ?_
   refine Jp.rd ((i + 1, v), l) ⟨by show i + 1 ≤ 6; omega, by show l.length ≤ i + 1; omega, hx⟩ (by show 6 - (i + 1) < 6 - i; omega)
 ·refine XL.n5 ?_
  refine SP.f ?_
  refine SP.exit ?_
  refine Jp.then_exit ?_
  refine Jp.then_exit ?_
  refine Jp.block_here ?_
  refine Jp.n4 ?_
  refine XL.m ?_
  refine XL.a ?_
  refine XL.n2 ?_
  refine SP.ret ?_
  exact Jp.go (Pk.drop (Γ1 := [PlS v l]) (by repeat' constructor)) (Jp.end1 (.inr rfl) rfl rfl ⟨l, by omega, hx, rfl⟩)
theorem c108 (m r : Nat) (s : St) (g : Fld) (p : Pl) (hp : MayQ p) : Tri Tryz.prog 108 [.iface 24 (mp m), plv p] [Mb m r s, FieldR r g] (fun v Γ' => ∃ l : List Pl, l.length ≤ 64 ∧ p ∈ l ∧ (∀ x ∈ l, Nbr p 0 x) ∧ Γ' = [PlS v l, Mb m r s, FieldR r g]) := by
 refine Pcalls (n := 30) Tryz.func108 rfl rfl rfl fun W0 H0 => ?_
 refine SP.r2 ?_
 refine XL.boxA rfl rfl (fun b1 => ?_)
 refine XL.a ?_
 refine XL.n4 ?_
 refine XL.lA ?_
 refine XL.buildSlice (by rfl) (by rfl) (by rfl) (by decide) rfl (fun b3 => ?_)
 refine XL.a ?_
 refine XL.n2 ?_
 refine SP.block ?_
 refine SP.know (Rm.know (by repeat' constructor) FieldR.rng) ?_
 intro hrg
 refine SP.lit 1 (k := 3) (b := b3) (by repeat' constructor) rfl ?_
 refine SP.loop (X := (Pl × Value) × List Pl) (fun w => [(3, .pointer (some ⟨b1, 0, none⟩)), (5, w.1.2), (0, .iface 24 (mp m))]) (fun w => [pt b1 (cel [.int .i64 w.1.1.x, .int .i64 w.1.1.y, .int .i64 w.1.1.z] 49), PlS w.1.2 w.2, Mb m r s, FieldR r g]) (fun w => (MayQ w.1.1 ∧ w.1.1.x = p.x ∧ w.1.1.z = p.z) ∧ p ∈ w.2 ∧ (∀ x ∈ w.2, Nbr p 0 x) ∧ (w.2.length : Int) + w.1.1.y ≤ 64) (fun w => w.1.1.y.toNat) ((p, .slice (some ⟨b3, 0, none⟩) 1 1), [p]) ⟨⟨hp, rfl, rfl⟩, by simp, fun x hx => by rw [show x = p by simpa using hx]; exact ⟨hp, by omega⟩, by have := hp.2.2.2.2.2; show (1 : Int) + p.y ≤ 64; omega⟩ (by repeat' constructor) (Pk.drop (by repeat' constructor)) ?_
 rintro ⟨⟨q, v⟩, l⟩ ⟨⟨hq, hqx, hqz⟩, hpl, hx, hly⟩
 dsimp only at *
 refine SP.block ?_
 refine SP.r2 ?_
 refine XL.lA ?_
 by_cases hd : MayQ (stp q 5)
 ·refine XL.cp rfl (c_Step_t q.x q.y q.z 5 (by omega) (by omega) hq hd) rfl ?_
  refine XL.m ?_
  refine XL.x ?_
  refine XL.x ?_
  refine XL.alloc (by rfl) (fun b2 => ?_)
  refine XL.sA ?_
  refine XL.a ?_
  refine XL.n5 ?_
  refine SP.r2 ?_
  refine XL.m ?_
  refine XL.not_t rfl rfl ?_
  refine XL.m ?_
  refine XL.g ?_
  refine XL.m ?_
  refine XL.g ?_
  refine XL.lA ?_
  refine XL.g ?_
  refine XL.ir (r := (g.cell (stp q 5)).v) rfl rfl (F_Cell m r s g (stp q 5) hd) (by repeat' constructor) rfl ?_
  refine XL.g ?_
  refine XL.cs rfl (c97 _ _ (hrg _ hd).1.1 (hrg _ hd).1.2.1 (hrg _ hd).1.2.2.1 (hrg _ hd).1.2.2.2) rfl (fun hcl => ?_) (fun hcl => ?_)
  ·refine XL.g ?_
   refine XL.not_t rfl rfl ?_
   refine XL.pick_f rfl rfl rfl ?_
   refine XL.n2 ?_
   refine SP.f ?_
   refine SP.skip ?_
   refine Jp.n4 ?_
   refine XL.m ?_
   refine XL.lA ?_
   refine XL.buildSlice (by rfl) (by rfl) (by rfl) (by decide) rfl (fun b5 => ?_)
   have hqy := hd.2.2.2.2.1
   have hqy2 : 0 ≤ q.y - 1 := hqy
   refine XL.append (k := 3) (z := [.int .i64 0, .int .i64 0, .int .i64 0]) (bt := 24) (xs := l.flatMap Pl.cs) (ys := Pl.cs (stp q 5)) (m := l.length) (m2 := 1) rfl rfl ⟨_, Tryz.underlying61⟩ (by repeat' constructor) rfl rfl rfl (by omega) rfl rfl (fun v2 => ?_)
   rw [PlS_snoc v2 l (stp q 5)]
   refine XL.a ?_
   refine XL.n3 ?_
   refine XL.lA ?_
   refine XL.sA ?_
   refine XL.nil ?_
   refine Jp.block_normal ?_
   refine Jp.rd ((stp q 5, v2), l ++ [stp q 5]) ⟨⟨hd, hqx, hqz⟩, List.mem_append_left _ hpl, fun x hx' => (List.mem_append.1 hx').elim (hx x) fun h1 => by rw [show x = stp q 5 by simpa using h1]; exact ⟨hd, by show -0 ≤ q.x - p.x ∧ q.x - p.x ≤ 0 ∧ -0 ≤ q.z - p.z ∧ q.z - p.z ≤ 0; omega⟩, by simp only [List.length_append, List.length_singleton]; show ((l.length + 1 : Nat) : Int) + (q.y - 1) ≤ 64; omega⟩ (by have h1 := hd.2.2.2.2.1; have h2 : 0 ≤ q.y - 1 := h1; show (q.y - 1).toNat < q.y.toNat; omega)
  ·refine XL.g ?_
   refine XL.not_f rfl rfl ?_
   refine XL.pick_f rfl rfl rfl ?_
   refine XL.n2 ?_
   refine SP.t ?_
   refine SP.r2 ?_
   refine XL.m ?_
   refine XL.a ?_
   refine XL.n2 ?_
   refine SP.ret ?_
   refine Jp.then_ret ?_
   refine Jp.block_ret ?_
   refine Jp.then_ret ?_
   refine Jp.block_ret ?_
   exact Jp.go (Pk.drop (Γ1 := [PlS v l, Mb m r s, FieldR r g]) (by repeat' constructor)) (Jp.end1 (.inr rfl) rfl rfl ⟨l, by have := hq.2.2.2.2.1; omega, hpl, hx, rfl⟩)
 ·refine XL.cp rfl (c_Step_f q.x q.y q.z 5 (by omega) (by omega) hq hd) rfl ?_
  refine XL.m ?_
  refine XL.x ?_
  refine XL.x ?_
  refine XL.alloc (by rfl) (fun b3 => ?_)
  refine XL.sA ?_
  refine XL.a ?_
  refine XL.n5 ?_
  refine SP.r2 ?_
  refine XL.m ?_
  refine XL.not_f rfl rfl ?_
  refine XL.m ?_
  refine XL.k ?_
  refine XL.k ?_
  refine XL.k ?_
  refine XL.k ?_
  refine XL.k ?_
  refine XL.pick_t rfl rfl rfl ?_
  refine XL.n2 ?_
  refine SP.t ?_
  refine SP.r2 ?_
  refine XL.m ?_
  refine XL.a ?_
  refine XL.n2 ?_
  refine SP.ret ?_
  refine Jp.then_ret ?_
  refine Jp.block_ret ?_
  refine Jp.then_ret ?_
  refine Jp.block_ret ?_
  exact Jp.go (Pk.drop (Γ1 := [PlS v l, Mb m r s, FieldR r g]) (by repeat' constructor)) (Jp.end1 (.inr rfl) rfl rfl ⟨l, by have := hq.2.2.2.2.1; omega, hpl, hx, rfl⟩)
theorem c120_nil  : Pur Tryz.prog 120 [.slice none 0 0] (.slice none 0 0) := by
 refine Pcalls (n := 8) Tryz.func120 rfl rfl rfl fun W0 H0 => ?_
 refine SP.r2 ?_
 refine XL.a ?_
 refine XL.n5 ?_
 refine SP.r2 ?_
 refine XL.m ?_
 refine XL.slnil rfl rfl ?_
 refine XL.n2 ?_
 refine SP.t ?_
 refine SP.r2 ?_
 refine XL.a ?_
 refine XL.n2 ?_
 refine SP.ret ?_
 refine Jp.then_ret ?_
 refine Jp.pur1 (.inr rfl) rfl rfl rfl
theorem c120_blk (b cap : Nat) (l : List Pl) (hn : l.length ≤ 10000000) : Tri Tryz.prog 120 [.slice (some ⟨b, 0, none⟩) l.length cap] [PlS (.slice (some ⟨b, 0, none⟩) l.length cap) l] (fun v Γ' => Γ' = [PlS v l, PlS (.slice (some ⟨b, 0, none⟩) l.length cap) l]) := by
 refine Pcalls (n := 8) Tryz.func120 rfl rfl rfl fun W0 H0 => ?_
 refine SP.r2 ?_
 refine XL.a ?_
 refine XL.n5 ?_
 refine SP.r2 ?_
 refine XL.m ?_
 refine XL.slnil rfl rfl ?_
 refine XL.n2 ?_
 refine SP.f ?_
 refine SP.skip ?_
 refine Jp.n4 ?_
 refine XL.buildSlice (pv := []) (by rfl) (by rfl) (by rfl) (by decide) rfl (fun b3 => ?_)
 refine XL.weaken (closeLit (k := 3) (m := 0) (xs := []) rfl) ?_
 refine XL.m ?_
 refine XL.appendS (k := 3) (z := [.int .i64 0, .int .i64 0, .int .i64 0]) (bt := 24) (xs := []) (ys := l.flatMap Pl.cs) (m := 0) (m2 := l.length) rfl rfl ⟨_, Tryz.underlying61⟩ (by repeat' constructor) (by repeat' constructor) rfl rfl (by omega) (sca_flat Pl.sca _) rfl (fun v' => ?_)
 rw [Nat.zero_add, List.nil_append]
 refine XL.a ?_
 refine XL.n2 ?_
 refine SP.ret ?_
 refine Jp.end1 (.inr rfl) rfl rfl rfl
theorem c120 (v : Value) (l : List Pl) (hn : l.length ≤ 10000000) : Tri Tryz.prog 120 [v] [PlS v l] (fun r Γ' => Γ' = [PlS r l, PlS v l]) := by
 refine Tri.slv (Γ2 := []) (Rm.here _ _) (fun hv hz hx => ?_) (fun b cap hv hlx hcap => ?_)
 ·subst hv
  have : l = [] := List.length_eq_zero_iff.1 hz
  subst this
  refine Tri.conseq (Tri.fr (Tri.mono c120_nil fun v Γ' h => h) [PlS (.slice none 0 0) []]) ?_
  rintro v _ ⟨Γ', ⟨rfl, rfl⟩, rfl⟩
  exact ⟨_, rfl, fun h st => star_nilS (E := 49) (k := 3) h st⟩
 ·subst hv; exact c120_blk b cap l hn
theorem c136 (gf : Nat) (lb : List Value) (p : Pl → Prop) [DecidablePred p] (D : Asn) (v : Value) (l : List Pl) [Fun Tryz.prog gf] (hp : ∀ q : Pl, MayQ q → Tri Tryz.prog gf (plv q :: lb) [D] (fun r Γ' => r = .bool (decide (p q)) ∧ Γ' = [D])) (hn : l.length ≤ 10000000) (hm : ∀ q ∈ l, MayQ q) : Tri Tryz.prog 136 [v, .func (.func gf) #[] lb.toArray] [PlS v l, D] (fun r Γ' => (r = .int .i64 (-1) ∧ (∀ q ∈ l, ¬ p q) ∨ ∃ i : Nat, r = .int .i64 (i : Int) ∧ i < l.length ∧ ∀ j, j < i → ∀ q, l[j]? = some q → ¬ p q) ∧ Γ' = [PlS v l, D]) := by
 refine Pcalls (n := 19) Tryz.func136 rfl rfl rfl fun W0 H0 => ?_
 refine SP.slv (by repeat' constructor) ?_
 rintro a cap bb rfl hA hlx
 refine SP.r2 ?_
 refine XL.a ?_
 refine XL.n5 ?_
 refine SP.r2 ?_
 refine XL.m ?_
 refine XL.len (by rfl) (by rfl) ?_
 refine XL.m ?_
 refine XL.n2 ?_
 refine SP.block ?_
 refine SP.loop (X := Nat) (fun i => [(8, .int .i64 (i : Int)), (7, .int .i64 (l.length : Int)), (0, .slice a l.length cap), (1, .func (.func gf) #[] lb.toArray)]) (fun i => [PlS (.slice a l.length cap) l, D]) (fun i => i ≤ l.length ∧ ∀ j, j < i → ∀ q, l[j]? = some q → ¬ p q) (fun i => l.length - i) 0 ⟨by omega, fun j hj => by omega⟩ (by repeat' constructor) (Pk.drop (by repeat' constructor)) ?_
 rintro i ⟨hi, hz⟩
 refine SP.r2 ?_
 refine XL.lss_s rfl rfl rfl (fun h1 => ?_) (fun h1 => ?_)
 ·refine XL.n5 ?_
  refine SP.t ?_
  refine SP.skip ?_
  refine Jp.then_normal ?_
  refine SP.seq ?_
  refine SP.block ?_
  refine SP.r2 ?_
  refine XL.m ?_
  refine XL.a ?_
  refine XL.n4 ?_
  refine XL.m ?_
  refine XL.m ?_
  refine XL.m ?_
  obtain ⟨t, hgt⟩ : ∃ t, l[i]? = some t := ⟨_, List.getElem?_eq_getElem (show i < l.length by omega)⟩
  obtain rfl := hA (by omega)
  refine XL.indexSl (r := i * 3) rfl rfl (by omega) (by omega) (by simp) rfl ?_
  refine XL.loadA (hs := SbL.flat Pl.len hgt rfl) rfl rfl ?_
  refine XL.vrs (v1 := []) (v2 := lb) rfl rfl (hp t (hm t (List.mem_of_getElem? hgt))) (by repeat' constructor) rfl (fun hq => ?_) (fun hq => ?_)
  ·refine XL.n2 ?_
   refine SP.t ?_
   refine SP.r2 ?_
   refine XL.m ?_
   refine XL.a ?_
   refine XL.n2 ?_
   refine SP.ret ?_
   refine Jp.block_ret ?_
   refine Jp.then_ret ?_
   refine Jp.then_ret ?_
   refine Jp.block_ret ?_
   refine Jp.then_ret ?_
   refine Jp.end1 (.inr rfl) rfl rfl ⟨.inr ⟨i, rfl, by omega, hz⟩, rfl⟩
  ·refine XL.n2 ?_
   refine SP.f ?_
   refine SP.skip ?_
   refine Jp.block_normal ?_
   refine Jp.then_normal ?_
   refine SP.region ?_
   refine XL.add_i64 rfl rfl (by omega) (by omega) rfl ?_
   refine XL.m ?_
   refine XL.nil ?_
   refine Jp.rd (i + 1) ⟨by omega, fun j hj y hy => by rcases Nat.lt_succ_iff_lt_or_eq.1 hj with g | g; exact hz j g y hy; subst g; rw [hgt] at hy; cases hy; exact hq⟩ (by omega)
 ·refine XL.n5 ?_
  refine SP.f ?_
  refine SP.exit ?_
  refine Jp.then_exit ?_
  refine Jp.then_exit ?_
  refine Jp.block_here ?_
  refine Jp.n4 ?_
  refine XL.a ?_
  refine XL.n2 ?_
  refine SP.ret ?_
  refine Jp.end1 (.inr rfl) rfl rfl ⟨.inl ⟨rfl, fun q hq => ?_⟩, rfl⟩
  obtain ⟨j, hj, e⟩ := List.getElem_of_mem hq
  exact hz j (by omega) q (by rw [List.getElem?_eq_getElem hj, e])
theorem take_set_append {l : List Pl} {i : Nat} {ys : List Pl} (h : i ≤ l.length) : ((l.take i ++ ys).flatMap Pl.cs).take (i * 3) = (l.take i).flatMap Pl.cs := by
 rw [List.flatMap_append, List.take_left' (by rw [flat_len' Pl.len]; simp; omega)]
@[reducible] def PlN (v : Value) (n : Nat) (l : List Pl) : Asn := Sl' 49 3 v n (l.flatMap Pl.cs)
theorem c119 (gf : Nat) (lb : List Value) (p : Pl → Prop) [DecidablePred p] (D : Asn) (v : Value) (l : List Pl) [Fun Tryz.prog gf] (hp : ∀ q : Pl, MayQ q → Tri Tryz.prog gf (plv q :: lb) [D] (fun r Γ' => r = .bool (decide (p q)) ∧ Γ' = [D])) (hn : l.length ≤ 10000000) (hm : ∀ q ∈ l, MayQ q) : Tri Tryz.prog 119 [v, .func (.func gf) #[] lb.toArray] [PlS v l, D] (fun r Γ' => ∃ l' : List Pl, (∀ q ∈ l', q ∈ l ∧ ¬ p q) ∧ l'.length ≤ l.length ∧ Γ' = [PlS r l', D]) := by
 refine Pcalls (n := 42) Tryz.func119 rfl rfl rfl fun W0 H0 => ?_
 refine SP.slv (by repeat' constructor) ?_
 rintro a cap bb rfl hA hlx
 refine SP.r2 ?_
 refine XL.a ?_
 refine XL.n4 ?_
 refine XL.m ?_
 refine XL.m ?_
 refine XL.cw rfl (c136 gf lb p D (.slice a l.length cap) l hp hn hm) (by repeat' constructor) rfl ?_
 rintro _ _ ⟨⟨rfl, hall⟩ | ⟨i0, rfl, hi0, hbef⟩, rfl⟩
 ·refine XL.app2 ?_
  refine XL.a ?_
  refine XL.n5 ?_
  refine SP.r2 ?_
  refine XL.m ?_
  refine XL.eql_t rfl rfl rfl rfl ?_
  refine XL.n2 ?_
  refine SP.t ?_
  refine SP.r2 ?_
  refine XL.m ?_
  refine XL.a ?_
  refine XL.n2 ?_
  refine SP.ret ?_
  refine Jp.then_ret ?_
  exact Jp.end1 (.inr rfl) rfl rfl ⟨l, fun q hq => ⟨hq, hall q hq⟩, Nat.le_refl _, rfl⟩
 ·refine XL.app2 ?_
  refine XL.a ?_
  refine XL.n5 ?_
  refine SP.r2 ?_
  refine XL.m ?_
  refine XL.eql_f rfl rfl (by omega) rfl ?_
  refine XL.n2 ?_
  refine SP.f ?_
  refine SP.skip ?_
  refine Jp.then_normal ?_
  refine SP.seq ?_
  refine SP.r2 ?_
  refine XL.m ?_
  refine XL.add_i64 rfl rfl (by omega) (by omega) rfl ?_
  refine XL.a ?_
  refine XL.n2 ?_
  refine SP.block ?_
  obtain rfl := hA (by omega)
  refine SP.know (Rm.know (by repeat' constructor) (fun _ hq => Sl'.ptr hq (by omega))) ?_
  rintro ⟨bq, cq, e, hcap⟩
  obtain ⟨rfl, rfl⟩ : bb = bq ∧ cap = cq := by injection e with e1 e2 e3; exact ⟨by injection e1 with e1; injection e1, e3⟩
  refine SP.loop (X := (Nat × Nat) × List Pl) (fun w => [(5, .int .i64 (w.1.1 : Int)), (6, .int .i64 (w.1.2 : Int)), (0, .slice (some ⟨bb, 0, none⟩) l.length cap), (1, .func (.func gf) #[] lb.toArray)]) (fun w => [PlN (.slice (some ⟨bb, 0, none⟩) l.length cap) l.length w.2, D]) (fun w => w.1.1 < w.1.2 ∧ w.1.2 ≤ l.length ∧ w.2.length = l.length ∧ (∀ q ∈ w.2, q ∈ l) ∧ ∀ j, j < w.1.1 → ∀ q, w.2[j]? = some q → ¬ p q) (fun w => l.length - w.1.2) ((i0, i0 + 1), l) ⟨Nat.lt_succ_self _, hi0, rfl, fun q hq => hq, hbef⟩ (by repeat' constructor) (Pk.drop (by repeat' constructor)) ?_
  rintro ⟨⟨i, j⟩, us⟩ ⟨hij, hjn, hus, hmem, hnp⟩
  dsimp only at *
  refine SP.seq ?_
  refine SP.r2 ?_
  refine XL.m ?_
  refine XL.m ?_
  refine XL.len (by rfl) (by rfl) ?_
  refine XL.lss_s rfl rfl rfl (fun hc => ?_) (fun hc => ?_)
  ·refine XL.n2 ?_
   refine SP.t ?_
   refine SP.skip ?_
   refine Jp.then_normal ?_
   refine SP.seq ?_
   refine SP.block ?_
   refine SP.r2 ?_
   refine XL.m ?_
   refine XL.m ?_
   obtain ⟨t, hgt⟩ : ∃ t, us[j]? = some t := ⟨_, List.getElem?_eq_getElem (show j < us.length by omega)⟩
   refine XL.indexSl (r := j * 3) rfl rfl (by omega) (by omega) (by simp) rfl ?_
   refine XL.loadA (hs := SbL.flat Pl.len hgt rfl) rfl rfl ?_
   refine XL.alloc (by rfl) (fun b1 => ?_)
   refine XL.sA ?_
   refine XL.n4 ?_
   refine XL.m ?_
   refine XL.lA ?_
   refine XL.vrs (v1 := []) (v2 := lb) rfl rfl (hp t (hm t (hmem t (List.mem_of_getElem? hgt)))) (by repeat' constructor) rfl (fun hpt => ?_) (fun hpt => ?_)
   ·refine XL.not_t rfl rfl ?_
    refine XL.n2 ?_
    refine SP.f ?_
    refine SP.skip ?_
    refine Jp.block_normal ?_
    refine Jp.then_normal ?_
    refine SP.region ?_
    refine XL.m ?_
    refine XL.add_i64 rfl rfl (by omega) (by omega) rfl ?_
    refine XL.a ?_
    refine XL.nil ?_
    refine Jp.rd ((i, j + 1), us) ⟨by show i < j + 1; omega, by show j + 1 ≤ l.length; omega, hus, hmem, hnp⟩ (by show l.length - (j + 1) < l.length - j; omega)
   ·refine XL.not_f rfl rfl ?_
    refine XL.n2 ?_
    refine SP.t ?_
    refine SP.r2 ?_
    refine XL.m ?_
    refine XL.m ?_
    refine XL.lA ?_
    refine XL.indexSl (r := i * 3) rfl rfl (by omega) (by omega) (by simp) rfl ?_
    refine XL.storeA (vs := t.cs) (hs := StL.flat Pl.len (i := i) t (by omega) rfl) rfl rfl rfl rfl ?_
    refine XL.n3 ?_
    refine XL.m ?_
    refine XL.add_i64 rfl rfl (by omega) (by omega) rfl ?_
    refine XL.a ?_
    refine XL.nil ?_
    refine Jp.block_normal ?_
    refine Jp.then_normal ?_
    refine SP.region ?_
    refine XL.m ?_
    refine XL.add_i64 rfl rfl (by omega) (by omega) rfl ?_
    refine XL.a ?_
    refine XL.nil ?_
    refine Jp.round ((i + 1, j + 1), us.set i t) ⟨by show i + 1 < j + 1; omega, by show j + 1 ≤ l.length; omega, by show (us.set i t).length = l.length; rw [List.length_set]; exact hus, fun q hq => (List.mem_or_eq_of_mem_set hq).elim (hmem q) (fun e => by rw [e]; exact hmem t (List.mem_of_getElem? hgt)), fun k hk q hq => by
      have hk' : k < i + 1 := hk
      by_cases e : i = k
      ·subst e; have hq' : (us.set i t)[i]? = some q := hq
       rw [List.getElem?_set_self (by omega)] at hq'; cases hq'; exact hpt
      ·have hq' : (us.set i t)[k]? = some q := hq
       rw [List.getElem?_set_ne e] at hq'; exact hnp k (by omega) q hq'⟩ (by show l.length - (j + 1) < l.length - j; omega) (by repeat' constructor) (Pk.drop (by repeat' constructor))
  ·refine XL.n2 ?_
   refine SP.f ?_
   refine SP.exit ?_
   refine Jp.then_exit ?_
   refine Jp.then_exit ?_
   refine Jp.block_here ?_
   refine Jp.n4 ?_
   refine XL.m ?_
   refine XL.m ?_
   refine XL.slice (l := i) (h := l.length) (r := i * 3) rfl ⟨_, rfl, rfl⟩ rfl (by omega) hcap (by rw [if_neg (by omega)]; omega) rfl rfl rfl ?_
   refine XL.clear (z := [.int .i64 0, .int .i64 0, .int .i64 0]) (m := l.length - i) (cs' := (us.take i ++ List.replicate (l.length - i) (⟨0, 0, 0⟩ : Pl)).flatMap Pl.cs) rfl rfl (by show StL _ _ (Builtin.zeroCells (Pl.cs ⟨0, 0, 0⟩).toArray _).toList _; rw [zeroCells_flat Pl.len]; have := StL.seg (l := us) (ys := List.replicate (l.length - i) (⟨0, 0, 0⟩ : Pl)) (i := i) (o := 0 + i * 3) Pl.len (by simp; omega) (by omega); rw [List.drop_eq_nil_of_le (by simp; omega), List.append_nil] at this; simpa using this) ?_
   refine XL.n4 ?_
   refine XL.m ?_
   refine XL.m ?_
   refine XL.slice (l := 0) (h := i) (r := 0) rfl rfl ⟨_, rfl, rfl⟩ (by omega) (by omega) (by split <;> rfl) rfl rfl rfl ?_
   refine XL.a ?_
   refine XL.n2 ?_
   refine SP.ret ?_
   refine Jp.go (fun h s => star_head (fun k hk => Sl'.shrink (m' := i) hk (by omega)) s) ?_
   rw [take_set_append (by omega)]
   have hti : (us.take i).length = i := by rw [List.length_take]; omega
   refine Jp.go (fun h s => show star [PlS (.slice (some ⟨bb, 0, none⟩) i cap) (us.take i), D] h by unfold PlS; rw [hti]; exact s) (Jp.end1 (.inr rfl) rfl rfl ⟨us.take i, fun q hq => ?_, by omega, ?_⟩)
   ·obtain ⟨k, hk, e⟩ := List.getElem_of_mem hq
    rw [hti] at hk
    rw [List.getElem_take] at e
    exact ⟨hmem q (List.mem_of_mem_take hq), hnp k hk q (by rw [List.getElem?_eq_getElem (by omega), e])⟩
   ·rfl
end Go.Proofs

namespace Go.Bk
section
variable {P : Program} {w0 : World} {h0 : Hp} {ops : Array Oper} {K : Act → World → Prop} {Q : Exit → Act → World → Prop} {rest : List Oper} {n : Nat} {L : Sl} {Γ Γ1 Γ2 : List Asn} {f : FuncId} {vs : List Value}
theorem XL.bundle (p : Pk Γ1 Γ Γ2) (k : XL P w0 h0 false ops K Q rest n L (star Γ1 :: Γ2)) : XL P w0 h0 false ops K Q rest n L Γ :=
 fun a w fi s => k a w fi (s.mono fun h st => (star_flat h).2 (p.to h st))
theorem XL.unbundle (r : Rm (star Γ1) Γ Γ2) (k : XL P w0 h0 false ops K Q rest n L (Γ1 ++ Γ2)) : XL P w0 h0 false ops K Q rest n L Γ :=
 fun a w fi s => k a w fi (s.mono fun h st => (star_flat h).1 (r.to h st))
theorem star_one : ∀ h, star [star Γ1] h ↔ star Γ1 h := fun h => by
 have := star_flat (Γ := Γ1) (Δ := []) h
 rwa [List.append_nil] at this
theorem Tri.bun {R : Value → Prop} (t : Tri P f vs Γ1 fun v Γ' => R v ∧ Γ' = Γ1) : Tri P f vs [star Γ1] fun v Γ' => R v ∧ Γ' = [star Γ1] :=
 Tri.conseq (Tri.pre (fun h s => (star_one h).1 s) t) fun v Γ' ⟨h1, h2⟩ => ⟨_, ⟨h1, rfl⟩, fun h s => (star_one h).2 (h2 ▸ s)⟩
end
end Go.Bk
namespace Go.Proofs
open Go.Bk
/-! ### sums over a box -/
def upA (A : Pl → Int) (q : Pl) (n : Int) : Pl → Int := fun x => if x = q then n else A x
theorem upA_self (A : Pl → Int) (q : Pl) (n : Int) : upA A q n q = n := if_pos rfl
theorem upA_ne (A : Pl → Int) {q x : Pl} (n : Int) (h : x ≠ q) : upA A q n x = A x := if_neg h
def box (c : Pl) : List Pl := (List.range 61).flatMap fun (i : Nat) => (List.range 61).flatMap fun (k : Nat) => (List.range 64).map fun (j : Nat) => (⟨c.x - 30 + (i : Int), (j : Int), c.z - 30 + (k : Int)⟩ : Pl)
theorem flatMap_len {α β : Type} {f : α → List β} {k : Nat} (h : ∀ x, (f x).length = k) : ∀ l : List α, (l.flatMap f).length = l.length * k
 | [] => by simp
 | x :: l => by rw [List.flatMap_cons, List.length_append, h x, flatMap_len h l, List.length_cons, Nat.succ_mul]; omega
theorem box_len (c : Pl) : (box c).length = 238144 := by
 unfold box
 rw [flatMap_len (k := 3904) (fun i => by rw [flatMap_len (k := 64) (fun k => by simp)]; simp)]; simp
theorem box_mem {c q : Pl} (h : Nbr c 30 q) : q ∈ box c := by
 obtain ⟨⟨_, _, _, _, h5, h6⟩, h1, h2, h3, h4⟩ := h
 unfold box
 rw [List.mem_flatMap]
 refine ⟨(q.x - c.x + 30).toNat, List.mem_range.2 (by omega), ?_⟩
 rw [List.mem_flatMap]
 refine ⟨(q.z - c.z + 30).toNat, List.mem_range.2 (by omega), ?_⟩
 rw [List.mem_map]
 refine ⟨q.y.toNat, List.mem_range.2 (by omega), ?_⟩
 obtain ⟨x, y, z⟩ := q
 simp only at *
 simp only [Pl.mk.injEq]
 omega
def Sm (f : Pl → Int) : List Pl → Int
 | [] => 0
 | q :: l => f q + Sm f l
theorem Sm_le {f : Pl → Int} {M : Int} (h : ∀ q, f q ≤ M) : ∀ B : List Pl, Sm f B ≤ M * B.length
 | [] => by simp [Sm]
 | q :: l => by
  have := Sm_le h l
  have h1 := h q
  simp only [Sm, List.length_cons]
  rw [show M * ((l.length + 1 : Nat) : Int) = M * l.length + M by rw [Int.natCast_add, Int.mul_add]; simp]
  omega
theorem Sm_ge {f : Pl → Int} (h : ∀ q, 0 ≤ f q) : ∀ B : List Pl, 0 ≤ Sm f B
 | [] => by simp [Sm]
 | q :: l => by have := Sm_ge h l; have := h q; simp only [Sm]; omega
theorem Sm_mono {f g : Pl → Int} (h : ∀ q, g q ≤ f q) : ∀ B : List Pl, Sm g B ≤ Sm f B
 | [] => by simp [Sm]
 | q :: l => by have := Sm_mono h l; have := h q; simp only [Sm]; omega
theorem Sm_lt {f g : Pl → Int} (h : ∀ q, g q ≤ f q) {x : Pl} (hx : g x + 1 ≤ f x) : ∀ B : List Pl, x ∈ B → Sm g B + 1 ≤ Sm f B
 | [], hm => by cases hm
 | q :: l, hm => by
  rcases List.mem_cons.1 hm with rfl | hm
  ·have := Sm_mono h l; simp only [Sm]; omega
  ·have := Sm_lt h hx l hm; have := h q; simp only [Sm]; omega
def Phi (c : Pl) (A : Pl → Int) : Int := Sm (fun q => if 0 < A q then 1 else 0) (box c)
theorem Phi_bd (c : Pl) (A : Pl → Int) : 0 ≤ Phi c A ∧ Phi c A ≤ 238144 := by
 refine ⟨Sm_ge (fun q => by split <;> omega) _, ?_⟩
 have := Sm_le (f := fun q => if 0 < A q then 1 else 0) (M := 1) (fun q => by split <;> omega) (box c)
 rw [box_len] at this; exact this
def Psi (c : Pl) (A : Pl → Int) : Int := Sm A (box c)
theorem Psi_bd (c : Pl) {A : Pl → Int} (h : ∀ q, 0 ≤ A q ∧ A q ≤ 15) : 0 ≤ Psi c A ∧ Psi c A ≤ 3572160 := by
 refine ⟨Sm_ge (fun q => (h q).1) _, ?_⟩
 have := Sm_le (f := A) (M := 15) (fun q => (h q).2) (box c)
 rw [box_len] at this; exact this
/-! ### what is dark -/
@[reducible] def u8v (n : Int) : Value := .int .u8 n
def Dh (hl : List (Pl × Int)) (q : Pl) : Int := (getM hl q).getD 0
theorem Dh_set (hl : List (Pl × Int)) (x q : Pl) (n : Int) : Dh (setM hl x n) q = if q = x then n else Dh hl q := by
 unfold Dh; rw [getM_setM]; split <;> rfl
theorem Dh_v (hl : List (Pl × Int)) (q : Pl) : ((getM hl q).map u8v).getD (.int .u8 0) = .int .u8 (Dh hl q) := by
 unfold Dh; cases getM hl q <;> rfl
structure DkS where
 i : Nat
 v : Value
 l : List Pl
 hl : List (Pl × Int)
 A : Pl → Int
structure DkI (c : Pl) (A0 : Pl → Int) (l0 l : List Pl) (hl : List (Pl × Int)) (A : Pl → Int) : Prop where
 nb : ∀ q ∈ l, Nbr c (15 - Dh hl q) q
 z : ∀ q ∈ l, A q = 0
 a : ∀ q, 0 ≤ A q ∧ A q ≤ A0 q
 d : ∀ k, 0 ≤ Dh hl k ∧ Dh hl k ≤ 15
 len : (l.length : Int) + Phi c A ≤ 238208
 sub : ∀ q ∈ l0, q ∈ l
theorem DkI.leng {c : Pl} {A0 : Pl → Int} {l0 l : List Pl} {hl : List (Pl × Int)} {A : Pl → Int} (h : DkI c A0 l0 l hl A) : l.length ≤ 238208 := by
 have := h.len; have := (Phi_bd c A).1; omega
theorem DkI.add {c : Pl} {A0 : Pl → Int} {l0 l : List Pl} {hl : List (Pl × Int)} {A : Pl → Int} (h : DkI c A0 l0 l hl A) (h0 : ∀ q, A0 q ≤ 15) {q0 x : Pl} (hq : q0 ∈ l) {k : Int} (hx : x = stp q0 k) (hm : MayQ x) (hp : 0 < A x) (hlt : A x < Dh hl q0) :
  DkI c A0 l0 (l ++ [x]) (setM hl x (A x)) (upA A x 0) := by
 have hxl : x ∉ l := fun hm => by have := h.z x hm; omega
 have hnx : Nbr c (15 - A x) x := by
  subst hx
  exact ((h.nb q0 hq).step hm).mono (by omega)
 have ha := h.a x
 have h15 := h0 x
 refine ⟨fun q hq' => ?_, fun q hq' => ?_, fun q => ?_, fun k => ?_, ?_, fun q hq' => List.mem_append_left _ (h.sub q hq')⟩
 ·rw [Dh_set]
  rcases List.mem_append.1 hq' with hq' | hq'
  ·rw [if_neg (fun e => hxl (by rw [← e]; exact hq'))]; exact h.nb q hq'
  ·obtain rfl : q = x := by simpa using hq'
   rw [if_pos rfl]; exact hnx
 ·rcases List.mem_append.1 hq' with hq' | hq'
  ·rw [upA_ne _ _ (fun e => hxl (by rw [← e]; exact hq'))]; exact h.z q hq'
  ·obtain rfl : q = x := by simpa using hq'
   exact upA_self _ _ _
 ·by_cases e : q = x
  ·subst e; rw [upA_self]; omega
  ·rw [upA_ne _ _ e]; exact h.a q
 ·rw [Dh_set]; split
  ·omega
  ·exact h.d k
 ·have : Phi c (upA A x 0) + 1 ≤ Phi c A := by
   unfold Phi
   refine Sm_lt (x := x) (fun q => ?_) ?_ _ (box_mem (hnx.mono (by omega)))
   ·by_cases e : q = x
    ·subst e; rw [upA_self]; simp; split <;> omega
    ·rw [upA_ne _ _ e]; omega
   ·rw [upA_self]; simp [hp]
  have h2 := h.len
  simp only [List.length_append, List.length_singleton]
  omega
theorem Nbr.stepx {c : Pl} {d k : Int} {q x : Pl} (h : Nbr c d q) (hx : x = stp q k) (hm : MayQ x) (hd : d ≤ 29) : Nbr c 30 x := by
 subst hx; exact (h.step hm).mono (by omega)
theorem DkI.nbx {c : Pl} {A0 : Pl → Int} {l0 l : List Pl} {hl : List (Pl × Int)} {A : Pl → Int} (h : DkI c A0 l0 l hl A) {q0 x : Pl} (hq : q0 ∈ l) {k : Int} (hx : x = stp q0 k) (hm : MayQ x) : Nbr c 30 x :=
 (h.nb q0 hq).stepx hx hm (by have := (h.d q0).1; omega)
theorem DkI.start {c : Pl} {A0 A : Pl → Int} {l : List Pl} {hl : List (Pl × Int)} (hn : l.length ≤ 64) (hnb : ∀ q ∈ l, Nbr c 0 q) (hz : ∀ q ∈ l, A q = 0) (ha : ∀ q, 0 ≤ A q ∧ A q ≤ A0 q) (hd : ∀ k, 0 ≤ Dh hl k ∧ Dh hl k ≤ 15) : DkI c A0 l l hl A :=
 ⟨fun q hq => (hnb q hq).mono (by have := (hd q).2; omega), hz, ha, hd, by have := (Phi_bd c A).2; omega, fun q hq => hq⟩
/-! ### what is bright -/
structure BrS where
 i : Nat
 v : Value
 l : List Pl
 A : Pl → Int
structure BrI (ce : Pl → C2) (A0 A : Pl → Int) : Prop where
 a : ∀ q, 0 ≤ A q ∧ A q ≤ 15
 k : ∀ q, ¬ clrC (ce q) → A q = A0 q
theorem BrI.set {ce : Pl → C2} {A0 A : Pl → Int} (h : BrI ce A0 A) {x : Pl} {n : Int} (hc : clrC (ce x)) (hn : 0 ≤ n ∧ n ≤ 15) : BrI ce A0 (upA A x n) := by
 refine ⟨fun q => ?_, fun q hq => ?_⟩
 ·by_cases e : q = x
  ·subst e; rw [upA_self]; exact hn
  ·rw [upA_ne _ _ e]; exact h.a q
 ·rw [upA_ne _ _ (fun e => hq (by rw [e]; exact hc))]; exact h.k q hq
structure BrJ (c : Pl) (ce : Pl → C2) (A0 : Pl → Int) (l : List Pl) (A : Pl → Int) : Prop where
 b : BrI ce A0 A
 nb : ∀ q ∈ l, Nbr c (30 - A q) q
 len : (l.length : Int) ≤ 238208 + Psi c A
theorem BrJ.leng {c : Pl} {ce : Pl → C2} {A0 A : Pl → Int} {l : List Pl} (h : BrJ c ce A0 l A) : l.length ≤ 3810368 := by
 have := h.len; have := (Psi_bd c h.b.a).2; omega
theorem BrJ.psi {c : Pl} {A : Pl → Int} {x : Pl} {n : Int} (hx : Nbr c 30 x) (h : A x + 1 ≤ n) : Psi c A + 1 ≤ Psi c (upA A x n) := by
 unfold Psi
 refine Sm_lt (x := x) (fun q => ?_) (by rw [upA_self]; exact h) _ (box_mem hx)
 by_cases e : q = x
 ·subst e; rw [upA_self]; omega
 ·rw [upA_ne _ _ e]; omega
theorem BrJ.add {c : Pl} {ce : Pl → C2} {A0 A : Pl → Int} {l : List Pl} (h : BrJ c ce A0 l A) {q0 x : Pl} {n k : Int} (hq : Nbr c (30 - n) q0) (hn : 2 ≤ n ∧ n ≤ 15) (hx : x = stp q0 k) (hm : MayQ x) (hc : clrC (ce x)) (hlt : A x < n - 1) :
  BrJ c ce A0 (l ++ [x]) (upA A x (n - 1)) ∧ Psi c A + 1 ≤ Psi c (upA A x (n - 1)) := by
 have hnx : Nbr c (30 - (n - 1)) x := by
  subst hx
  exact (hq.step hm).mono (by omega)
 have hp := BrJ.psi (c := c) (A := A) (x := x) (n := n - 1) (hnx.mono (by omega)) (by omega)
 refine ⟨⟨h.b.set hc (by omega), fun q hq' => ?_, ?_⟩, hp⟩
 ·by_cases e : q = x
  ·subst e; rw [upA_self]; exact hnx
  ·rw [upA_ne _ _ e]
   rcases List.mem_append.1 hq' with hq' | hq'
   ·exact h.nb q hq'
   ·exact absurd (by simpa using hq') e
 ·have := h.len
  simp only [List.length_append, List.length_singleton]
  omega
theorem BrJ.start {c : Pl} {ce : Pl → C2} {A0 A : Pl → Int} {l : List Pl} (h : BrI ce A0 A) (hn : l.length ≤ 238208) (hnb : ∀ q ∈ l, Nbr c 15 q) : BrJ c ce A0 l A :=
 ⟨h, fun q hq => (hnb q hq).mono (by have := h.a q; omega), by have := (Psi_bd c h.a).1; omega⟩
@[reducible] def wvC (m fo fa fs : Nat) (co ca cs : List Value) : List Value := [.iface 24 (mp m), .func (.func fo) #[] co.toArray, .func (.func fa) #[] ca.toArray, .func (.func fs) #[] cs.toArray]
end Go.Proofs

namespace Go.Proofs
open Go.Bk
theorem c104 (c : Pl) (m fo fa fs : Nat) (co ca cs : List Value) (S : (Pl → Int) → Asn) [Fun Tryz.prog fo] [Fun Tryz.prog fa] [Fun Tryz.prog fs] (hat : ∀ (A : Pl → Int) (q : Pl), MayQ q → Tri Tryz.prog fa (plv q :: ca) [S A] (fun v Γ' => v = .int .u8 (A q) ∧ Γ' = [S A])) (hset : ∀ (A : Pl → Int) (q : Pl) (n : Int), Nbr c 30 q → 0 ≤ n → n ≤ 15 → Tri Tryz.prog fs (plv q :: .int .u8 n :: cs) [S A] (fun v Γ' => v = .tuple #[] ∧ Γ' = [S (upA A q n)])) (A0 : Pl → Int) (h0 : ∀ q, 0 ≤ A0 q ∧ A0 q ≤ 15) (v : Value) (l : List Pl) (hn : l.length ≤ 64) (hnb : ∀ q ∈ l, Nbr c 0 q) : Tri Tryz.prog 104 [.agg (wvC m fo fa fs co ca cs).toArray, v] [PlS v l, S A0] (fun r Γ' => ∃ l' A', (∀ q, 0 ≤ A' q ∧ A' q ≤ A0 q) ∧ (∀ q ∈ l, A' q = 0) ∧ (∀ q ∈ l', Nbr c 15 q) ∧ l'.length ≤ 238208 ∧ Γ' = [PlS r l', S A']) := by
 refine Pcalls (n := 75) Tryz.func104 rfl rfl rfl fun W0 H0 => ?_
 refine SP.slv (by repeat' constructor) ?_
 rintro a cap bb rfl hAp hlx
 refine SP.r2 ?_
 refine XL.boxA rfl rfl (fun b1 => ?_)
 refine XL.a ?_
 refine XL.n4 ?_
 refine XL.makeMap (ek := Pl.v) (ev' := u8v) rfl (fun m1 => ?_)
 refine XL.a ?_
 refine XL.n5 ?_
 refine SP.r2 ?_
 refine XL.m ?_
 refine XL.len (by rfl) (by rfl) ?_
 refine XL.m ?_
 refine XL.n2 ?_
 refine SP.block ?_
 refine SP.loop (X := (Nat × List (Pl × Int)) × (Pl → Int)) (fun w => [(15, .int .i64 (w.1.1 : Int)), (14, .int .i64 (l.length : Int)), (13, .slice a l.length cap), (1, .slice a l.length cap), (5, .map (some m1)), (2, .pointer (some ⟨b1, 0, none⟩))]) (fun w => [pt b1 (cel (wvC m fo fa fs co ca cs) 175), PlS (.slice a l.length cap) l, MpR Pl.v u8v m1 w.1.2, S w.2]) (fun w => w.1.1 ≤ l.length ∧ (∀ q, 0 ≤ w.2 q ∧ w.2 q ≤ A0 q) ∧ (∀ j, j < w.1.1 → ∀ q, l[j]? = some q → w.2 q = 0) ∧ ∀ k, 0 ≤ Dh w.1.2 k ∧ Dh w.1.2 k ≤ 15) (fun w => l.length - w.1.1) ((0, []), A0) ⟨Nat.zero_le _, fun q => ⟨(h0 q).1, Int.le_refl _⟩, fun j hj => absurd hj (Nat.not_lt_zero j), fun k => ⟨show (0 : Int) ≤ 0 by decide, show (0 : Int) ≤ 15 by decide⟩⟩ (by repeat' constructor) (Pk.drop (by repeat' constructor)) ?_
 rintro ⟨⟨i, hl⟩, A1⟩ ⟨hi, hA1, hz1, hd1⟩
 dsimp only at *
 refine SP.r2 ?_
 refine XL.lss_s rfl rfl rfl (fun hc => ?_) (fun hc => ?_)
 ·obtain ⟨t, hgt⟩ : ∃ t, l[i]? = some t := ⟨_, List.getElem?_eq_getElem (show i < l.length by omega)⟩
  have ht : Nbr c 0 t := hnb t (List.mem_of_getElem? hgt)
  obtain rfl := hAp (by omega)
  refine XL.n5 ?_
  refine SP.t ?_
  refine SP.skip ?_
  refine Jp.then_normal ?_
  refine SP.seq ?_
  refine SP.block ?_
  refine SP.r2 ?_
  refine XL.indexSl (r := i * 3) rfl rfl (by omega) (by omega) (by simp) rfl ?_
  refine XL.loadA (hs := SbL.flat Pl.len hgt rfl) rfl rfl ?_
  refine XL.alloc (by rfl) (fun b2 => ?_)
  refine XL.sA ?_
  refine XL.n5 ?_
  refine SP.tail 6 Tryz.fol (by kernel_rfl) ?_
  refine XL.m ?_
  refine XL.lA ?_
  refine XL.f ?_
  refine XL.l ?_
  refine XL.lA ?_
  refine XL.vr (v1 := []) (v2 := ca) rfl rfl (hat A1 t (ht.1)) (by repeat' constructor) rfl ?_
  refine XL.nilq_tail ?_
  refine XL.mapUpdate (k := t) (v := A1 t) (ek := Pl.v) (ev' := u8v) rfl rfl rfl (by repeat' constructor) ?_
  refine XL.n3 ?_
  refine XL.f ?_
  refine XL.l ?_
  refine XL.lA ?_
  refine XL.vw (v1 := []) (v2 := cs) rfl rfl (hset A1 t (0) (ht.mono (by decide)) (by decide) (by decide)) (by repeat' constructor) rfl ?_
  rintro _ _ ⟨rfl, rfl⟩
  refine XL.app1 ?_
  refine XL.nil ?_
  refine Jp.block_normal ?_
  refine Jp.then_normal ?_
  refine SP.region ?_
  refine XL.add_i64 rfl rfl (by omega) (by omega) rfl ?_
  refine XL.m ?_
  refine XL.nil ?_
  refine Jp.rd ((i + 1, setM hl t (A1 t)), upA A1 t 0) ⟨by show i + 1 ≤ l.length; omega, fun q => ?_, fun j hj q hq => ?_, fun k => ?_⟩ (by show l.length - (i + 1) < l.length - i; omega)
  ·by_cases e : q = t
   ·subst e; show 0 ≤ upA A1 q 0 q ∧ upA A1 q 0 q ≤ A0 q; rw [upA_self]; have := h0 q; omega
   ·show 0 ≤ upA A1 t 0 q ∧ upA A1 t 0 q ≤ A0 q; rw [upA_ne _ _ e]; exact hA1 q
  ·show upA A1 t 0 q = 0
   have hj' : j < i + 1 := hj
   by_cases e : q = t
   ·subst e; exact upA_self _ _ _
   ·rw [upA_ne _ _ e]
    by_cases g : j = i
    ·subst g; rw [hgt] at hq; cases hq; exact absurd rfl e
    ·exact hz1 j (by omega) q hq
  ·show 0 ≤ Dh (setM hl t (A1 t)) k ∧ Dh (setM hl t (A1 t)) k ≤ 15
   rw [Dh_set]
   split
   ·have h1 := hA1 t; have h2 := h0 t; omega
   ·exact hd1 k
 ·refine XL.n5 ?_
  refine SP.f ?_
  refine SP.exit ?_
  refine Jp.then_exit ?_
  refine Jp.then_exit ?_
  refine Jp.block_here ?_
  refine Jp.then_normal ?_
  refine SP.seq ?_
  refine SP.r2 ?_
  refine XL.a ?_
  refine XL.n2 ?_
  refine SP.block ?_
  refine SP.loop (X := DkS) (fun w => [(8, .int .i64 (w.i : Int)), (1, w.v), (5, .map (some m1)), (2, .pointer (some ⟨b1, 0, none⟩))]) (fun w => [pt b1 (cel (wvC m fo fa fs co ca cs) 175), PlS w.v w.l, MpR Pl.v u8v m1 w.hl, S w.A]) (fun w => w.i ≤ w.l.length ∧ DkI c A0 l w.l w.hl w.A) (fun w => 2 * (238208 - w.l.length) + (w.l.length - w.i)) ⟨0, .slice a l.length cap, l, hl, A1⟩ ⟨Nat.zero_le _, DkI.start hn hnb (fun q hq => by obtain ⟨j, hj, e⟩ := List.getElem_of_mem hq; exact hz1 j (by omega) q (by rw [List.getElem?_eq_getElem hj, e])) hA1 hd1⟩ (by repeat' constructor) (Pk.drop (by repeat' constructor)) ?_
  rintro ⟨i2, v, l2, hl2, A2⟩ ⟨hi2, hI⟩
  dsimp only at *
  have hlen := hI.leng
  refine SP.seq ?_
  refine SP.r2 ?_
  refine XL.m ?_
  refine XL.m ?_
  refine XL.lenS (E' := 49) (xs := l2.flatMap Pl.cs) (m := l2.length) rfl (by repeat' constructor) rfl ?_
  refine XL.lss_s rfl rfl rfl (fun hc => ?_) (fun hc => ?_)
  ·obtain ⟨q0, hg0⟩ : ∃ t, l2[i2]? = some t := ⟨_, List.getElem?_eq_getElem (show i2 < l2.length by omega)⟩
   have hm0 := List.mem_of_getElem? hg0
   have hn0 := hI.nb q0 hm0
   refine XL.know (Rm.know (A := PlS _ l2) (by repeat' constructor) (fun _ hq => Sl'.ptr hq (by omega))) ?_
   rintro ⟨bk2, cp2, rfl, _⟩
   refine XL.n2 ?_
   refine SP.t ?_
   refine SP.skip ?_
   refine Jp.then_normal ?_
   refine SP.seq ?_
   refine SP.block ?_
   refine SP.r2 ?_
   refine XL.m ?_
   refine XL.m ?_
   refine XL.indexSl (r := i2 * 3) rfl rfl (by omega) (by omega) (by simp) rfl ?_
   refine XL.loadA (hs := SbL.flat Pl.len hg0 rfl) rfl rfl ?_
   refine XL.cw rfl (c122 q0 (hn0.1)) (Pk.nil _) rfl ?_
   rintro _ _ ⟨sl, hsl, hslx, rfl⟩
   refine XL.app1 ?_
   refine XL.know (Rm.know (Rm.here _ _) (fun _ hq => Sl'.len hq)) ?_
   rintro ⟨asl, csl, rfl, _⟩
   refine XL.len (by rfl) (by rfl) ?_
   refine XL.m ?_
   refine XL.n2 ?_
   refine SP.block ?_
   refine SP.loop (X := DkS) (fun w => [(42, .int .i64 (w.i : Int)), (41, .int .i64 (sl.length : Int)), (40, .slice asl sl.length csl), (8, .int .i64 (i2 : Int)), (1, w.v), (5, .map (some m1)), (2, .pointer (some ⟨b1, 0, none⟩))]) (fun w => [pt b1 (cel (wvC m fo fa fs co ca cs) 175), PlS w.v w.l, MpR Pl.v u8v m1 w.hl, S w.A, PlS (.slice asl sl.length csl) sl]) (fun w => w.i ≤ sl.length ∧ DkI c A0 l w.l w.hl w.A ∧ w.l[i2]? = some q0 ∧ l2.length ≤ w.l.length) (fun w => sl.length - w.i) ⟨0, .slice (some ⟨bk2, 0, none⟩) l2.length cp2, l2, hl2, A2⟩ ⟨Nat.zero_le _, hI, hg0, Nat.le_refl _⟩ (by repeat' constructor) (Pk.drop (by repeat' constructor)) ?_
   rintro ⟨j, v3, l3, hl3, A3⟩ ⟨hj, hI3, hg3, hl23⟩
   dsimp only at *
   have hlen3 := hI3.leng
   have hi3 : i2 < l3.length := (List.getElem?_eq_some_iff.1 hg3).1
   refine SP.r2 ?_
   refine XL.lss_s rfl rfl rfl (fun hcj => ?_) (fun hcj => ?_)
   ·obtain ⟨x, hgx⟩ : ∃ t, sl[j]? = some t := ⟨_, List.getElem?_eq_getElem (show j < sl.length by omega)⟩
    obtain ⟨kx, _, _, hxs, hxm⟩ := hslx x (List.mem_of_getElem? hgx)
    refine XL.know (Rm.know (A := PlS _ sl) (by repeat' constructor) (fun _ hq => Sl'.ptr hq (by omega))) ?_
    rintro ⟨bsl, csl', esl, _⟩
    obtain rfl : asl = some ⟨bsl, 0, none⟩ := by injection esl
    refine XL.know (Rm.know (A := PlS _ l3) (by repeat' constructor) (fun _ hq => Sl'.ptr hq (by omega))) ?_
    rintro ⟨bk3, cp3, rfl, _⟩
    refine XL.n5 ?_
    refine SP.t ?_
    refine SP.skip ?_
    refine Jp.then_normal ?_
    refine SP.seq ?_
    refine SP.block ?_
    refine SP.r2 ?_
    refine XL.indexSl (r := j * 3) rfl rfl (by omega) (by omega) (by simp) rfl ?_
    refine XL.loadA (hs := SbL.flat Pl.len hgx rfl) rfl rfl ?_
    refine XL.alloc (by rfl) (fun b3 => ?_)
    refine XL.sA ?_
    refine XL.n4 ?_
    refine XL.f ?_
    refine XL.l ?_
    refine XL.lA ?_
    refine XL.vr (v1 := []) (v2 := ca) rfl rfl (hat A3 x (hxm)) (by repeat' constructor) rfl ?_
    refine XL.a ?_
    refine XL.n4 ?_
    refine XL.m ?_
    refine XL.gtr_s rfl rfl rfl (fun h1 => ?_) (fun h1 => ?_)
    ·refine XL.m ?_
     refine XL.g ?_
     refine XL.m ?_
     refine XL.g ?_
     refine XL.m ?_
     refine XL.g ?_
     refine XL.m ?_
     refine XL.g ?_
     refine XL.m ?_
     refine XL.g ?_
     refine XL.indexSl (r := i2 * 3) rfl rfl (by omega) (by omega) (by simp) rfl ?_
     refine XL.g ?_
     refine XL.loadA (hs := SbL.flat Pl.len hg3 rfl) rfl rfl ?_
     refine XL.g ?_
     refine XL.lookup (z := .int .u8 0) (k := q0) (ek := Pl.v) (ev' := u8v) (l := hl3) rfl rfl (by repeat' constructor) (zeroOf (by kernel_rfl)) rfl ?_
     rw [Dh_v]
     refine XL.g ?_
     refine XL.lss_s rfl rfl rfl (fun h2 => ?_) (fun h2 => ?_)
     ·refine XL.pick_t rfl rfl rfl ?_
      refine XL.n2 ?_
      refine SP.t ?_
      refine SP.r2 ?_
      refine XL.m ?_
      refine XL.lA ?_
      refine XL.m ?_
      refine XL.mapUpdate (k := x) (v := A3 x) (ek := Pl.v) (ev' := u8v) rfl rfl rfl (by repeat' constructor) ?_
      refine XL.n4 ?_
      refine XL.f ?_
      refine XL.l ?_
      refine XL.lA ?_
      refine XL.vw (v1 := []) (v2 := cs) rfl rfl (hset A3 x (0) (hI3.nbx (List.mem_of_getElem? hg3) hxs hxm) (by decide) (by decide)) (by repeat' constructor) rfl ?_
      rintro _ _ ⟨rfl, rfl⟩
      refine XL.app1 ?_
      refine XL.n3 ?_
      refine XL.m ?_
      refine XL.lA ?_
      refine XL.buildSlice (by rfl) (by rfl) (by rfl) (by decide) rfl (fun bx => ?_)
      refine XL.append (k := 3) (z := [.int .i64 0, .int .i64 0, .int .i64 0]) (bt := 24) (xs := l3.flatMap Pl.cs) (ys := Pl.cs x) (m := l3.length) (m2 := 1) rfl rfl ⟨_, Tryz.underlying61⟩ (by repeat' constructor) rfl rfl rfl (by omega) rfl rfl (fun v4 => ?_)
      rw [PlS_snoc v4 l3 x]
      refine XL.a ?_
      refine XL.nil ?_
      refine Jp.block_normal ?_
      refine Jp.then_normal ?_
      refine SP.region ?_
      refine XL.add_i64 rfl rfl (by omega) (by omega) rfl ?_
      refine XL.m ?_
      refine XL.nil ?_
      refine Jp.rd ⟨j + 1, v4, l3 ++ [x], setM hl3 x (A3 x), upA A3 x 0⟩ ⟨by show j + 1 ≤ sl.length; omega, hI3.add (fun q => (h0 q).2) (List.mem_of_getElem? hg3) hxs hxm h1 h2, by show (l3 ++ [x])[i2]? = some q0; rw [List.getElem?_append_left hi3]; exact hg3, by show l2.length ≤ (l3 ++ [x]).length; simp; omega⟩ (by show sl.length - (j + 1) < sl.length - j; omega)
     ·refine XL.pick_t rfl rfl rfl ?_
      refine XL.n2 ?_
      refine SP.f ?_
      refine SP.skip ?_
      refine Jp.block_normal ?_
      refine Jp.then_normal ?_
      refine SP.region ?_
      refine XL.add_i64 rfl rfl (by omega) (by omega) rfl ?_
      refine XL.m ?_
      refine XL.nil ?_
      refine Jp.rd ⟨j + 1, .slice (some ⟨bk3, 0, none⟩) l3.length cp3, l3, hl3, A3⟩ ⟨by show j + 1 ≤ sl.length; omega, hI3, hg3, hl23⟩ (by show sl.length - (j + 1) < sl.length - j; omega)
    ·refine XL.m ?_
     refine XL.k ?_
     refine XL.k ?_
     refine XL.k ?_
     refine XL.k ?_
     refine XL.k ?_
     refine XL.k ?_
     refine XL.k ?_
     refine XL.k ?_
     refine XL.pick_f rfl rfl rfl ?_
     refine XL.n2 ?_
     refine SP.f ?_
     refine SP.skip ?_
     refine Jp.block_normal ?_
     refine Jp.then_normal ?_
     refine SP.region ?_
     refine XL.add_i64 rfl rfl (by omega) (by omega) rfl ?_
     refine XL.m ?_
     refine XL.nil ?_
     refine Jp.rd ⟨j + 1, .slice (some ⟨bk3, 0, none⟩) l3.length cp3, l3, hl3, A3⟩ ⟨by show j + 1 ≤ sl.length; omega, hI3, hg3, hl23⟩ (by show sl.length - (j + 1) < sl.length - j; omega)
   ·refine XL.n5 ?_
    refine SP.f ?_
    refine SP.exit ?_
    refine Jp.then_exit ?_
    refine Jp.then_exit ?_
    refine Jp.block_here ?_
    refine Jp.block_normal ?_
    refine Jp.then_normal ?_
    refine SP.region ?_
    refine XL.m ?_
    refine XL.add_i64 rfl rfl (by omega) (by omega) rfl ?_
    refine XL.a ?_
    refine XL.nil ?_
    refine Jp.rd ⟨i2 + 1, v3, l3, hl3, A3⟩ ⟨by show i2 + 1 ≤ l3.length; omega, hI3⟩ (by have h5 := hI3.leng; show 2 * (238208 - l3.length) + (l3.length - (i2 + 1)) < 2 * (238208 - l2.length) + (l2.length - i2); omega)
  ·refine XL.n2 ?_
   refine SP.f ?_
   refine SP.exit ?_
   refine Jp.then_exit ?_
   refine Jp.then_exit ?_
   refine Jp.block_here ?_
   refine Jp.n4 ?_
   refine XL.m ?_
   refine XL.a ?_
   refine XL.n2 ?_
   refine SP.ret ?_
   exact Jp.go (Pk.drop (Γ1 := [PlS v l2, S A2]) (by repeat' constructor)) (Jp.end1 (.inr rfl) rfl rfl ⟨l2, A2, hI.a, fun q hq => hI.z q (hI.sub q hq), fun q hq => (hI.nb q hq).mono (by have := (hI.d q).1; omega), hlen, rfl⟩)
theorem c121 (c : Pl) (m fo fa fs : Nat) (co ca cs : List Value) (S : (Pl → Int) → Asn) [Fun Tryz.prog fo] [Fun Tryz.prog fa] [Fun Tryz.prog fs] (hat : ∀ (A : Pl → Int) (q : Pl), MayQ q → Tri Tryz.prog fa (plv q :: ca) [S A] (fun v Γ' => v = .int .u8 (A q) ∧ Γ' = [S A])) (hset : ∀ (A : Pl → Int) (q : Pl) (n : Int), Nbr c 30 q → 0 ≤ n → n ≤ 15 → Tri Tryz.prog fs (plv q :: .int .u8 n :: cs) [S A] (fun v Γ' => v = .tuple #[] ∧ Γ' = [S (upA A q n)])) (ow : Pl → Int) (how : ∀ q, 0 ≤ ow q ∧ ow q ≤ 15) (hown : ∀ (A : Pl → Int) (q : Pl), MayQ q → Tri Tryz.prog fo (plv q :: co) [S A] (fun v Γ' => v = .int .u8 (ow q) ∧ Γ' = [S A])) (ce : Pl → C2) (hce : ∀ q, MayQ q → C2.rng (ce q)) (hcell : ∀ (A : Pl → Int) (q : Pl), MayQ q → Tri Tryz.prog 180 [mp m, plv q] [S A] (fun v Γ' => v = (ce q).v ∧ Γ' = [S A])) (b : Nat) (A : Pl → Int) (q : Pl) (hq : MayQ q) : Tri Tryz.prog 121 [plv q, .pointer (some ⟨b, 0, none⟩)] [pt b (cel (wvC m fo fa fs co ca cs) 175), S A] (fun v Γ' => v = .bool (decide (¬ clrC (ce q))) ∧ Γ' = [pt b (cel (wvC m fo fa fs co ca cs) 175), S A]) := by
 refine Pcalls (n := 10) Tryz.func121 rfl rfl rfl fun W0 H0 => ?_
 refine SP.r2 ?_
 refine XL.boxA rfl rfl (fun b1 => ?_)
 refine XL.a ?_
 refine XL.n4 ?_
 refine XL.f ?_
 refine XL.l ?_
 refine XL.lA ?_
 refine XL.ir (r := (ce q).v) rfl rfl (hcell A q (hq)) (by repeat' constructor) rfl ?_
 refine XL.cs rfl (c97 _ _ (hce q (hq)).1 (hce q (hq)).2.1 (hce q (hq)).2.2.1 (hce q (hq)).2.2.2) rfl (fun hc => ?_) (fun hc => ?_)
 ·refine XL.not_t rfl rfl ?_
  refine XL.a ?_
  refine XL.n2 ?_
  refine SP.ret ?_
  refine Jp.go (Pk.drop (Γ1 := [pt b (cel (wvC m fo fa fs co ca cs) 175), S A]) (by repeat' constructor)) (Jp.end1 (.inr rfl) rfl rfl ⟨?_, rfl⟩)
  first | exact bt (fun g => hc g) | exact bf (fun g => g hc)
 ·refine XL.not_f rfl rfl ?_
  refine XL.a ?_
  refine XL.n2 ?_
  refine SP.ret ?_
  refine Jp.go (Pk.drop (Γ1 := [pt b (cel (wvC m fo fa fs co ca cs) 175), S A]) (by repeat' constructor)) (Jp.end1 (.inr rfl) rfl rfl ⟨?_, rfl⟩)
  first | exact bt (fun g => hc g) | exact bf (fun g => g hc)
theorem c103 (c : Pl) (m fo fa fs : Nat) (co ca cs : List Value) (S : (Pl → Int) → Asn) [Fun Tryz.prog fo] [Fun Tryz.prog fa] [Fun Tryz.prog fs] (hat : ∀ (A : Pl → Int) (q : Pl), MayQ q → Tri Tryz.prog fa (plv q :: ca) [S A] (fun v Γ' => v = .int .u8 (A q) ∧ Γ' = [S A])) (hset : ∀ (A : Pl → Int) (q : Pl) (n : Int), Nbr c 30 q → 0 ≤ n → n ≤ 15 → Tri Tryz.prog fs (plv q :: .int .u8 n :: cs) [S A] (fun v Γ' => v = .tuple #[] ∧ Γ' = [S (upA A q n)])) (ow : Pl → Int) (how : ∀ q, 0 ≤ ow q ∧ ow q ≤ 15) (hown : ∀ (A : Pl → Int) (q : Pl), MayQ q → Tri Tryz.prog fo (plv q :: co) [S A] (fun v Γ' => v = .int .u8 (ow q) ∧ Γ' = [S A])) (ce : Pl → C2) (hce : ∀ q, MayQ q → C2.rng (ce q)) (hcell : ∀ (A : Pl → Int) (q : Pl), MayQ q → Tri Tryz.prog 180 [mp m, plv q] [S A] (fun v Γ' => v = (ce q).v ∧ Γ' = [S A])) (A0 : Pl → Int) (h0 : ∀ q, 0 ≤ A0 q ∧ A0 q ≤ 15) (v : Value) (l : List Pl) (hn : l.length ≤ 238208) (hnb : ∀ q ∈ l, Nbr c 15 q) : Tri Tryz.prog 103 [.agg (wvC m fo fa fs co ca cs).toArray, v] [PlS v l, S A0] (fun r Γ' => r = .tuple #[] ∧ ∃ A', BrI ce A0 A' ∧ Γ' = [S A']) := by
 refine Pcalls (n := 107) Tryz.func103 rfl rfl rfl fun W0 H0 => ?_
 refine SP.slv (by repeat' constructor) ?_
 rintro a cap bb rfl hAp hlx
 refine SP.r2 ?_
 refine XL.boxA rfl rfl (fun b1 => ?_)
 refine XL.n4 ?_
 refine XL.m ?_
 refine XL.cw rfl (c120 (.slice a l.length cap) l (by omega)) (by repeat' constructor) rfl ?_
 rintro v1 _ rfl
 refine XL.app2 ?_
 refine XL.makeFunc (l1 := []) (l2 := [.tmp 2]) rfl rfl rfl ?_
 refine XL.bundle (Γ1 := [pt b1 (cel (wvC m fo fa fs co ca cs) 175), S A0]) (by repeat' constructor) ?_
 refine XL.cw rfl (c119 121 [.pointer (some ⟨b1, 0, none⟩)] (fun q => ¬ clrC (ce q)) (star [pt b1 (cel (wvC m fo fa fs co ca cs) 175), S A0]) v1 l (fun q hq => Tri.bun (c121 c m fo fa fs co ca cs S hat hset ow how hown ce hce hcell b1 A0 q hq)) (by omega) (fun q hq => (hnb q hq).1)) (by repeat' constructor) rfl ?_
 rintro v2 _ ⟨l1, hl1, hl1n, rfl⟩
 refine XL.app2 ?_
 refine XL.unbundle (Γ1 := [pt b1 (cel (wvC m fo fa fs co ca cs) 175), S A0]) (by repeat' constructor) ?_
 refine XL.app2 ?_
 refine XL.know (Rm.know (A := PlS v2 l1) (by repeat' constructor) (fun _ hq => Sl'.len hq)) ?_
 rintro ⟨al, cl, rfl, _⟩
 refine XL.a ?_
 refine XL.n5 ?_
 refine SP.r2 ?_
 refine XL.m ?_
 refine XL.len (by rfl) (by rfl) ?_
 refine XL.m ?_
 refine XL.n2 ?_
 refine SP.block ?_
 refine SP.loop (X := Nat × (Pl → Int)) (fun w => [(20, .int .i64 (w.1 : Int)), (19, .int .i64 (l1.length : Int)), (18, .slice al l1.length cl), (1, .slice al l1.length cl), (2, .pointer (some ⟨b1, 0, none⟩))]) (fun w => [pt b1 (cel (wvC m fo fa fs co ca cs) 175), PlS (.slice al l1.length cl) l1, S w.2]) (fun w => w.1 ≤ l1.length ∧ BrI ce A0 w.2) (fun w => l1.length - w.1) (0, A0) ⟨Nat.zero_le _, h0, fun q hq => rfl⟩ (by repeat' constructor) (Pk.drop (by repeat' constructor)) ?_
 rintro ⟨i, A1⟩ ⟨hi, hB⟩
 dsimp only at *
 refine SP.r2 ?_
 refine XL.lss_s rfl rfl rfl (fun hc => ?_) (fun hc => ?_)
 ·obtain ⟨t, hgt⟩ : ∃ t, l1[i]? = some t := ⟨_, List.getElem?_eq_getElem (show i < l1.length by omega)⟩
  obtain ⟨htl, htc⟩ := hl1 t (List.mem_of_getElem? hgt)
  have htc : clrC (ce t) := Decidable.not_not.1 htc
  have ht := hnb t htl
  refine XL.know (Rm.know (A := PlS _ l1) (by repeat' constructor) (fun _ hq => Sl'.ptr hq (by omega))) ?_
  rintro ⟨bl, cl', el, _⟩
  obtain rfl : al = some ⟨bl, 0, none⟩ := by injection el
  have howt := how t
  have hAt := hB.a t
  refine XL.n5 ?_
  refine SP.t ?_
  refine SP.skip ?_
  refine Jp.then_normal ?_
  refine SP.seq ?_
  refine SP.block ?_
  refine SP.r2 ?_
  refine XL.indexSl (r := i * 3) rfl rfl (by omega) (by omega) (by simp) rfl ?_
  refine XL.loadA (hs := SbL.flat Pl.len hgt rfl) rfl rfl ?_
  refine XL.alloc (by rfl) (fun b2 => ?_)
  refine XL.sA ?_
  refine XL.n5 ?_
  refine SP.quiet Tryz.fol (by kernel_rfl) ?_
  refine XL.f ?_
  refine XL.l ?_
  refine XL.lA ?_
  refine XL.vr (v1 := []) (v2 := co) rfl rfl (hown A1 t ht.1) (by repeat' constructor) rfl ?_
  refine XL.f ?_
  refine XL.l ?_
  refine XL.lA ?_
  refine XL.vr (v1 := []) (v2 := ca) rfl rfl (hat A1 t (ht.1)) (by repeat' constructor) rfl ?_
  obtain ⟨n1, hn1⟩ : ∃ n1, (if A1 t > ow t then A1 t else ow t) = n1 := ⟨_, rfl⟩
  have hn1b : 0 ≤ n1 ∧ n1 ≤ 15 := by rw [← hn1]; split <;> omega
  refine XL.max2 rfl rfl hn1 rfl ?_
  refine XL.a ?_
  refine XL.nilq_end ?_
  refine Jp.then_normal ?_
  refine SP.seq ?_
  refine SP.r2 ?_
  refine XL.lA ?_
  refine XL.cw rfl (c122 t (ht.1)) (Pk.nil _) rfl ?_
  rintro _ _ ⟨sl, hsl, hslx, rfl⟩
  refine XL.app1 ?_
  refine XL.know (Rm.know (Rm.here _ _) (fun _ hq => Sl'.len hq)) ?_
  rintro ⟨asl, csl, rfl, _⟩
  refine XL.len (by rfl) (by rfl) ?_
  refine XL.m ?_
  refine XL.n2 ?_
  refine SP.block ?_
  refine SP.loop (X := Nat × Int) (fun w => [(36, .int .i64 (w.1 : Int)), (35, .int .i64 (sl.length : Int)), (34, .slice asl sl.length csl), (6, .int .u8 w.2), (5, .pointer (some ⟨b2, 0, none⟩)), (20, .int .i64 (i : Int)), (19, .int .i64 (l1.length : Int)), (18, .slice (some ⟨bl, 0, none⟩) l1.length cl), (1, .slice (some ⟨bl, 0, none⟩) l1.length cl), (2, .pointer (some ⟨b1, 0, none⟩))]) (fun w => [pt b1 (cel (wvC m fo fa fs co ca cs) 175), PlS (.slice (some ⟨bl, 0, none⟩) l1.length cl) l1, S A1, pt b2 (cel t.cs 49), PlS (.slice asl sl.length csl) sl]) (fun w => w.1 ≤ sl.length ∧ 0 ≤ w.2 ∧ w.2 ≤ 15) (fun w => sl.length - w.1) (0, n1) ⟨Nat.zero_le _, hn1b.1, hn1b.2⟩ (by repeat' constructor) (Pk.drop (by repeat' constructor)) ?_
  rintro ⟨j, n2⟩ ⟨hj, hn0, hn15⟩
  dsimp only at *
  refine SP.r2 ?_
  refine XL.lss_s rfl rfl rfl (fun hcj => ?_) (fun hcj => ?_)
  ·obtain ⟨x, hgx⟩ : ∃ t, sl[j]? = some t := ⟨_, List.getElem?_eq_getElem (show j < sl.length by omega)⟩
   obtain ⟨kx, _, _, hxs, hxm⟩ := hslx x (List.mem_of_getElem? hgx)
   have hAx := hB.a x
   refine XL.know (Rm.know (A := PlS _ sl) (by repeat' constructor) (fun _ hq => Sl'.ptr hq (by omega))) ?_
   rintro ⟨bsl, csl', esl, _⟩
   obtain rfl : asl = some ⟨bsl, 0, none⟩ := by injection esl
   refine XL.n5 ?_
   refine SP.t ?_
   refine SP.skip ?_
   refine Jp.then_normal ?_
   refine SP.seq ?_
   refine SP.block ?_
   refine SP.r2 ?_
   refine XL.indexSl (r := j * 3) rfl rfl (by omega) (by omega) (by simp) rfl ?_
   refine XL.loadA (hs := SbL.flat Pl.len hgx rfl) rfl rfl ?_
   refine XL.alloc (by rfl) (fun b3 => ?_)
   refine XL.sA ?_
   refine XL.n4 ?_
   refine XL.f ?_
   refine XL.l ?_
   refine XL.lA ?_
   refine XL.vr (v1 := []) (v2 := ca) rfl rfl (hat A1 x (hxm)) (by repeat' constructor) rfl ?_
   refine XL.a ?_
   refine XL.n4 ?_
   refine XL.m ?_
   refine XL.gtr_s rfl rfl rfl (fun h1 => ?_) (fun h1 => ?_)
   ·refine XL.n2 ?_
    refine SP.t ?_
    refine SP.region ?_
    refine XL.m ?_
    refine XL.m ?_
    refine XL.sub_u8 rfl rfl (by omega) (by omega) rfl ?_
    obtain ⟨n3, hn3⟩ : ∃ n3, (if A1 x - 1 > n2 then A1 x - 1 else n2) = n3 := ⟨_, rfl⟩
    have hn3b : 0 ≤ n3 ∧ n3 ≤ 15 := by rw [← hn3]; split <;> omega
    refine XL.max2 rfl rfl hn3 rfl ?_
    refine XL.a ?_
    refine XL.nil ?_
    refine Jp.block_normal ?_
    refine Jp.then_normal ?_
    refine SP.region ?_
    refine XL.add_i64 rfl rfl (by omega) (by omega) rfl ?_
    refine XL.m ?_
    refine XL.nil ?_
    refine Jp.rd (j + 1, n3) ⟨by show j + 1 ≤ sl.length; omega, hn3b.1, hn3b.2⟩ (by show sl.length - (j + 1) < sl.length - j; omega)
   ·refine XL.n2 ?_
    refine SP.f ?_
    refine SP.skip ?_
    refine Jp.block_normal ?_
    refine Jp.then_normal ?_
    refine SP.region ?_
    refine XL.add_i64 rfl rfl (by omega) (by omega) rfl ?_
    refine XL.m ?_
    refine XL.nil ?_
    refine Jp.rd (j + 1, n2) ⟨by show j + 1 ≤ sl.length; omega, hn0, hn15⟩ (by show sl.length - (j + 1) < sl.length - j; omega)
  ·refine XL.n5 ?_
   refine SP.f ?_
   refine SP.exit ?_
   refine Jp.then_exit ?_
   refine Jp.then_exit ?_
   refine Jp.block_here ?_
   refine Jp.then_normal ?_
   refine SP.region ?_
   refine XL.f ?_
   refine XL.l ?_
   refine XL.lA ?_
   refine XL.m ?_
   refine XL.vw (v1 := []) (v2 := cs) rfl rfl (hset A1 t (n2) (ht.mono (by decide)) (hn0) (hn15)) (by repeat' constructor) rfl ?_
   rintro _ _ ⟨rfl, rfl⟩
   refine XL.app1 ?_
   refine XL.nil ?_
   refine Jp.block_normal ?_
   refine Jp.then_normal ?_
   refine SP.region ?_
   refine XL.add_i64 rfl rfl (by omega) (by omega) rfl ?_
   refine XL.m ?_
   refine XL.nil ?_
   refine Jp.rd (i + 1, upA A1 t n2) ⟨by show i + 1 ≤ l1.length; omega, hB.set htc ⟨hn0, hn15⟩⟩ (by show l1.length - (i + 1) < l1.length - i; omega)
 ·refine XL.n5 ?_
  refine SP.f ?_
  refine SP.exit ?_
  refine Jp.then_exit ?_
  refine Jp.then_exit ?_
  refine Jp.block_here ?_
  refine Jp.n4 ?_
  refine XL.a ?_
  refine XL.n2 ?_
  refine SP.block ?_
  refine SP.loop (X := BrS) (fun w => [(10, .int .i64 (w.i : Int)), (1, w.v), (2, .pointer (some ⟨b1, 0, none⟩))]) (fun w => [pt b1 (cel (wvC m fo fa fs co ca cs) 175), PlS w.v w.l, S w.A]) (fun w => w.i ≤ w.l.length ∧ BrJ c ce A0 w.l w.A) (fun w => 2 * (3572160 - Psi c w.A).toNat + (w.l.length - w.i)) ⟨0, .slice al l1.length cl, l1, A1⟩ ⟨Nat.zero_le _, BrJ.start hB (Nat.le_trans hl1n hn) (fun q hq => hnb q (hl1 q hq).1)⟩ (by repeat' constructor) (Pk.drop (by repeat' constructor)) ?_
  rintro ⟨i2, v, l2, A2⟩ ⟨hi2, hJ⟩
  dsimp only at *
  have hlen := hJ.leng
  have hps := Psi_bd c hJ.b.a
  refine SP.seq ?_
  refine SP.r2 ?_
  refine XL.m ?_
  refine XL.m ?_
  refine XL.lenS (E' := 49) (xs := l2.flatMap Pl.cs) (m := l2.length) rfl (by repeat' constructor) rfl ?_
  refine XL.lss_s rfl rfl rfl (fun hc => ?_) (fun hc => ?_)
  ·obtain ⟨q0, hg0⟩ : ∃ t, l2[i2]? = some t := ⟨_, List.getElem?_eq_getElem (show i2 < l2.length by omega)⟩
   have hn0 := hJ.nb q0 (List.mem_of_getElem? hg0)
   have hA0 := hJ.b.a q0
   refine XL.know (Rm.know (A := PlS _ l2) (by repeat' constructor) (fun _ hq => Sl'.ptr hq (by omega))) ?_
   rintro ⟨bk2, cp2, rfl, _⟩
   refine XL.n2 ?_
   refine SP.t ?_
   refine SP.skip ?_
   refine Jp.then_normal ?_
   refine SP.seq ?_
   refine SP.block ?_
   refine SP.seq ?_
   refine SP.quiet Tryz.fol (by kernel_rfl) ?_
   refine XL.f ?_
   refine XL.l ?_
   refine XL.m ?_
   refine XL.m ?_
   refine XL.indexSl (r := i2 * 3) rfl rfl (by omega) (by omega) (by simp) rfl ?_
   refine XL.loadA (hs := SbL.flat Pl.len hg0 rfl) rfl rfl ?_
   refine XL.vr (v1 := []) (v2 := ca) rfl rfl (hat A2 q0 (hn0.1)) (by repeat' constructor) rfl ?_
   refine XL.a ?_
   refine XL.nilq_end ?_
   refine Jp.then_normal ?_
   refine SP.seq ?_
   refine SP.r2 ?_
   refine XL.m ?_
   refine XL.lss_s rfl rfl rfl (fun h2 => ?_) (fun h2 => ?_)
   ·refine XL.n2 ?_
    refine SP.t ?_
    refine SP.exit ?_
    refine Jp.then_exit ?_
    refine Jp.block_here ?_
    refine Jp.then_normal ?_
    refine SP.region ?_
    refine XL.m ?_
    refine XL.add_i64 rfl rfl (by omega) (by omega) rfl ?_
    refine XL.a ?_
    refine XL.nil ?_
    refine Jp.rd ⟨i2 + 1, .slice (some ⟨bk2, 0, none⟩) l2.length cp2, l2, A2⟩ ⟨by show i2 + 1 ≤ l2.length; omega, hJ⟩ (by show 2 * (3572160 - Psi c A2).toNat + (l2.length - (i2 + 1)) < 2 * (3572160 - Psi c A2).toNat + (l2.length - i2); omega)
   ·refine XL.n2 ?_
    refine SP.f ?_
    refine SP.skip ?_
    refine Jp.n4 ?_
    refine XL.m ?_
    refine XL.m ?_
    refine XL.indexSl (r := i2 * 3) rfl rfl (by omega) (by omega) (by simp) rfl ?_
    refine XL.loadA (hs := SbL.flat Pl.len hg0 rfl) rfl rfl ?_
    refine XL.cw rfl (c122 q0 (hn0.1)) (Pk.nil _) rfl ?_
    rintro _ _ ⟨sl, hsl, hslx, rfl⟩
    refine XL.app1 ?_
    refine XL.know (Rm.know (Rm.here _ _) (fun _ hq => Sl'.len hq)) ?_
    rintro ⟨asl, csl, rfl, _⟩
    refine XL.len (by rfl) (by rfl) ?_
    refine XL.m ?_
    refine XL.n2 ?_
    refine SP.block ?_
    refine SP.loop (X := BrS) (fun w => [(78, .int .i64 (w.i : Int)), (77, .int .i64 (sl.length : Int)), (76, .slice asl sl.length csl), (11, .int .u8 (A2 q0)), (10, .int .i64 (i2 : Int)), (1, w.v), (2, .pointer (some ⟨b1, 0, none⟩))]) (fun w => [pt b1 (cel (wvC m fo fa fs co ca cs) 175), PlS w.v w.l, S w.A, PlS (.slice asl sl.length csl) sl]) (fun w => w.i ≤ sl.length ∧ BrJ c ce A0 w.l w.A ∧ l2.length ≤ w.l.length ∧ (w.l.length : Int) + Psi c A2 ≤ l2.length + Psi c w.A) (fun w => sl.length - w.i) ⟨0, .slice (some ⟨bk2, 0, none⟩) l2.length cp2, l2, A2⟩ ⟨Nat.zero_le _, hJ, Nat.le_refl _, Int.le_refl _⟩ (by repeat' constructor) (Pk.drop (by repeat' constructor)) ?_
    rintro ⟨j, v3, l3, A3⟩ ⟨hj, hJ3, hl23, hps3⟩
    dsimp only at *
    have hlen3 := hJ3.leng
    refine SP.r2 ?_
    refine XL.lss_s rfl rfl rfl (fun hcj => ?_) (fun hcj => ?_)
    ·obtain ⟨x, hgx⟩ : ∃ t, sl[j]? = some t := ⟨_, List.getElem?_eq_getElem (show j < sl.length by omega)⟩
     obtain ⟨kx, _, _, hxs, hxm⟩ := hslx x (List.mem_of_getElem? hgx)
     refine XL.know (Rm.know (A := PlS _ sl) (by repeat' constructor) (fun _ hq => Sl'.ptr hq (by omega))) ?_
     rintro ⟨bsl, csl', esl, _⟩
     obtain rfl : asl = some ⟨bsl, 0, none⟩ := by injection esl
     refine XL.n5 ?_
     refine SP.t ?_
     refine SP.skip ?_
     refine Jp.then_normal ?_
     refine SP.seq ?_
     refine SP.block ?_
     refine SP.r2 ?_
     refine XL.indexSl (r := j * 3) rfl rfl (by omega) (by omega) (by simp) rfl ?_
     refine XL.loadA (hs := SbL.flat Pl.len hgx rfl) rfl rfl ?_
     refine XL.alloc (by rfl) (fun b4 => ?_)
     refine XL.sA ?_
     refine XL.n4 ?_
     refine XL.f ?_
     refine XL.l ?_
     refine XL.lA ?_
     refine XL.vr (v1 := []) (v2 := ca) rfl rfl (hat A3 x (hxm)) (by repeat' constructor) rfl ?_
     refine XL.m ?_
     refine XL.sub_u8 rfl rfl (by omega) (by omega) rfl ?_
     refine XL.lss_s rfl rfl rfl (fun h3 => ?_) (fun h3 => ?_)
     ·refine XL.m ?_
      refine XL.g ?_
      refine XL.f ?_
      refine XL.g ?_
      refine XL.l ?_
      refine XL.g ?_
      refine XL.lA ?_
      refine XL.g ?_
      refine XL.ir (r := (ce x).v) rfl rfl (hcell A3 x (hxm)) (by repeat' constructor) rfl ?_
      refine XL.g ?_
      refine XL.cs rfl (c97 _ _ (hce x (hxm)).1 (hce x (hxm)).2.1 (hce x (hxm)).2.2.1 (hce x (hxm)).2.2.2) rfl (fun h4 => ?_) (fun h4 => ?_)
      ·refine XL.pick_t rfl rfl rfl ?_
       refine XL.n2 ?_
       refine SP.t ?_
       refine SP.r2 ?_
       refine XL.f ?_
       refine XL.l ?_
       refine XL.lA ?_
       refine XL.m ?_
       refine XL.sub_u8 rfl rfl (by omega) (by omega) rfl ?_
       refine XL.vw (v1 := []) (v2 := cs) rfl rfl (hset A3 x (A2 q0 - 1) (Nbr.stepx hn0 hxs hxm (by omega)) (by omega) (by omega)) (by repeat' constructor) rfl ?_
       rintro _ _ ⟨rfl, rfl⟩
       refine XL.app1 ?_
       refine XL.n3 ?_
       refine XL.m ?_
       refine XL.lA ?_
       refine XL.buildSlice (by rfl) (by rfl) (by rfl) (by decide) rfl (fun bx => ?_)
       refine XL.append (k := 3) (z := [.int .i64 0, .int .i64 0, .int .i64 0]) (bt := 24) (xs := l3.flatMap Pl.cs) (ys := Pl.cs x) (m := l3.length) (m2 := 1) rfl rfl ⟨_, Tryz.underlying61⟩ (by repeat' constructor) rfl rfl rfl (by omega) rfl rfl (fun v4 => ?_)
       rw [PlS_snoc v4 l3 x]
       refine XL.a ?_
       refine XL.nil ?_
       refine Jp.block_normal ?_
       refine Jp.then_normal ?_
       refine SP.region ?_
       refine XL.add_i64 rfl rfl (by omega) (by omega) rfl ?_
       refine XL.m ?_
       refine XL.nil ?_
       obtain ⟨hJ4, hp4⟩ := hJ3.add hn0 (by omega) hxs hxm h4 h3
       refine Jp.rd ⟨j + 1, v4, l3 ++ [x], upA A3 x (A2 q0 - 1)⟩ ⟨by show j + 1 ≤ sl.length; omega, hJ4, by show l2.length ≤ (l3 ++ [x]).length; simp; omega, by show ((l3 ++ [x]).length : Int) + Psi c A2 ≤ l2.length + Psi c (upA A3 x (A2 q0 - 1)); rw [List.length_append, List.length_singleton]; omega⟩ (by show sl.length - (j + 1) < sl.length - j; omega)
      ·refine XL.pick_t rfl rfl rfl ?_
       refine XL.n2 ?_
       refine SP.f ?_
       refine SP.skip ?_
       refine Jp.block_normal ?_
       refine Jp.then_normal ?_
       refine SP.region ?_
       refine XL.add_i64 rfl rfl (by omega) (by omega) rfl ?_
       refine XL.m ?_
       refine XL.nil ?_
       refine Jp.rd ⟨j + 1, v3, l3, A3⟩ ⟨by show j + 1 ≤ sl.length; omega, hJ3, hl23, hps3⟩ (by show sl.length - (j + 1) < sl.length - j; omega)
     ·refine XL.m ?_
      refine XL.k ?_
      refine XL.k ?_
      refine XL.k ?_
      refine XL.k ?_
      refine XL.k ?_
      refine XL.pick_f rfl rfl rfl ?_
      refine XL.n2 ?_
      refine SP.f ?_
      refine SP.skip ?_
      refine Jp.block_normal ?_
      refine Jp.then_normal ?_
      refine SP.region ?_
      refine XL.add_i64 rfl rfl (by omega) (by omega) rfl ?_
      refine XL.m ?_
      refine XL.nil ?_
      refine Jp.rd ⟨j + 1, v3, l3, A3⟩ ⟨by show j + 1 ≤ sl.length; omega, hJ3, hl23, hps3⟩ (by show sl.length - (j + 1) < sl.length - j; omega)
    ·refine XL.n5 ?_
     refine SP.f ?_
     refine SP.exit ?_
     refine Jp.then_exit ?_
     refine Jp.then_exit ?_
     refine Jp.block_here ?_
     refine Jp.block_normal ?_
     refine Jp.then_normal ?_
     refine SP.region ?_
     refine XL.m ?_
     refine XL.add_i64 rfl rfl (by omega) (by omega) rfl ?_
     refine XL.a ?_
     refine XL.nil ?_
     refine Jp.rd ⟨i2 + 1, v3, l3, A3⟩ ⟨by show i2 + 1 ≤ l3.length; omega, hJ3⟩ (by have h5 := Psi_bd c hJ3.b.a; show 2 * (3572160 - Psi c A3).toNat + (l3.length - (i2 + 1)) < 2 * (3572160 - Psi c A2).toNat + (l2.length - i2); omega)
  ·refine XL.n2 ?_
   refine SP.f ?_
   refine SP.exit ?_
   refine Jp.then_exit ?_
   refine Jp.then_exit ?_
   refine Jp.block_here ?_
   exact Jp.go (Pk.drop (Γ1 := [S A2]) (by repeat' constructor)) (Jp.end0 (.inl rfl) rfl ⟨rfl, A2, hJ.b, rfl⟩)
end Go.Proofs

namespace Go.Bk
open Go.Proofs Go.Sort Go.Shelf
theorem Wd.grow {w0 w : World} {h0 : Hp} {Γ : List Asn} (s : Wd w0 h0 Γ w) (os : Array Obj) : Wd w0 h0 Γ (Go.Sort.grow w os) := by
  obtain ⟨h, st, ag, fr⟩ := s
  refine ⟨h, st, fun b o hb => ?_, ⟨fr.os, fr.tape, fr.output, fr.drawn, ?_, fun b hb h0b => ?_, fr.own⟩⟩
  · have hlt := ag.lt (b := b) (by rw [hb]; simp)
    show (w.heap ++ os)[b]? = _
    rw [Array.getElem?_append_left hlt]; exact ag b o hb
  · show w0.heap.size ≤ (w.heap ++ os).size
    have := fr.size; simp; omega
  · have := fr.size
    show (w.heap ++ os)[b]? = _
    rw [Array.getElem?_append_left (by omega)]; exact fr.old b hb h0b
theorem Wd.grown {w w' : World} (s : Wd w (fun _ => none) [] w') : ∃ q os, w' = Go.Sort.grow (w.drewN q) os := by
  obtain ⟨h, _, _, fr⟩ := s
  refine ⟨w'.drawn - w.drawn, w'.heap.extract w.heap.size w'.heap.size, ?_⟩
  have hd := fr.drawn
  have hh : w'.heap = w.heap ++ w'.heap.extract w.heap.size w'.heap.size := by
    apply Array.ext_getElem?
    intro i
    rcases Nat.lt_or_ge i w.heap.size with g | g
    · rw [Array.getElem?_append_left g]; exact fr.old i g rfl
    · rw [Array.getElem?_append_right g, Array.getElem?_extract]
      have := fr.size
      by_cases g2 : i < w'.heap.size
      · rw [if_pos (by omega), show w.heap.size + (i - w.heap.size) = i by omega]
      · rw [if_neg (by omega), Array.getElem?_eq_none (by omega)]
  cases w' with
  | mk heap tape drawn os output =>
    have e1 := fr.os; have e2 := fr.tape; have e3 := fr.output
    simp only at e1 e2 e3 hd hh
    subst e1 e2 e3
    unfold Go.Sort.grow World.drewN
    simp only [World.mk.injEq, true_and, and_true]
    exact ⟨hh, by omega⟩
section
variable {α : Type} [Inhabited α] {enc : α → List Value} {k : Nat}
theorem flatK_list (hk : ∀ x, (enc x).length = k) (l : List α) : flatK enc k l.toArray = (l.flatMap enc).toArray := by
  apply Array.ext
  · simp [flat_len hk]
  · intro t h1 h2
    have ht : t < l.length * k := by simpa using h1
    have hk0 : 0 < k := by rcases Nat.eq_zero_or_pos k with e | e; · rw [e] at ht; simp at ht
                           · exact e
    have hq : t / k < l.length := Nat.div_lt_of_lt_mul (by rw [Nat.mul_comm]; exact ht)
    have hs := (SbL.flat hk (List.getElem?_eq_getElem hq) rfl).sub
    have hm := Nat.mod_lt t hk0
    have e1 : (flatK enc k l.toArray)[t] = (enc l[t / k])[t % k]'(by rw [hk]; exact hm) := by
      have := get_flatK enc k l.toArray t (by simpa using ht)
      rw [getElem!_pos _ t h1] at this
      rw [this, getElem!_pos l.toArray (t / k) (by simpa using hq), getElem!_pos _ (t % k) (by simp [hk]; exact hm)]
      simp
    rw [e1]
    have e2 : ((l.flatMap enc).drop (t / k * k))[t % k]? = (l.flatMap enc)[t]? := by
      rw [List.getElem?_drop]; congr 1; rw [Nat.mul_comm]; exact Nat.div_add_mod t k
    have e3 : (enc l[t / k])[t % k]? = ((l.flatMap enc).drop (t / k * k))[t % k]? := by
      rw [← hs.2, List.getElem?_take, if_pos hm]
    have e4 : (l.flatMap enc)[t]? = some (l.flatMap enc)[t] := List.getElem?_eq_getElem (by simpa using h2)
    rw [← e2, ← e3, List.getElem?_eq_getElem (by rw [hk]; exact hm)] at e4
    simpa using (Option.some.inj e4)
theorem holds_of (hk : ∀ x, (enc x).length = k) {w : World} {b T : Nat} {l : List α} {rest : List Value} (h : w.heap[b]? = some (cel (l.flatMap enc ++ rest) T)) : HoldsK enc k w b 0 l.toArray := by
  intro j hj
  have hj' : j < (l.flatMap enc).length := by simpa [flat_len hk] using hj
  refine ⟨?_, ?_⟩
  · rw [cell_of h, Nat.zero_add, List.getElem?_append_left hj', List.getElem?_eq_getElem hj', flatK_list hk, getElem!_pos _ j (by simpa using hj')]
    simp
  · unfold World.frozen?; simp [h, cel]
theorem putRow_cel (hk : ∀ x, (enc x).length = k) {w : World} {b T : Nat} {l l' : List α} {rest : List Value} (h : w.heap[b]? = some (cel (l.flatMap enc ++ rest) T)) (hl : l'.length = l.length) : putRowK enc k w b 0 l'.toArray = setB w b (cel (l'.flatMap enc ++ rest) T) := by
  unfold putRowK putRow mapBlock setB
  rw [flatK_list hk]
  congr 1
  apply Array.ext_getElem?
  intro i
  rw [Array.getElem?_modify, Array.getElem?_setIfInBounds]
  obtain ⟨hlt, _⟩ := Array.getElem?_eq_some_iff.1 h
  by_cases e : b = i
  · subst e
    rw [if_pos rfl, if_pos rfl, if_pos hlt, h]
    simp only [Option.map_some, onCells, cel]
    congr 2
    apply Array.ext_getElem?
    intro t
    simp only [putCells, Array.getElem?_mapIdx, List.getElem?_toArray, List.size_toArray]
    have hfl : (l'.flatMap enc).length = (l.flatMap enc).length := by rw [flat_len hk, flat_len hk, hl]
    generalize l'.flatMap enc = Y at *
    generalize l.flatMap enc = X at *
    by_cases g : t < Y.length
    · rw [List.getElem?_append_left (by omega), List.getElem?_append_left g, List.getElem?_eq_getElem (by omega), List.getElem?_eq_getElem g]
      simp [g]
    · rw [List.getElem?_append_right (by omega), List.getElem?_append_right (by omega), hfl]
      cases rest[t - X.length]? with
      | none => rfl
      | some y => simp; omega
  · rw [if_neg e, if_neg e]
end
theorem sort_perm {P : Program} {ρ : Ren} {α : Type} [Inhabited α] (Ly : SlLaysF0.n6 P ρ) {k E : Nat} [he : Ag P (ρ.t 24) k] {enc : α → List Value} (hk : ∀ x, (enc x).length = k) (h1 : ∀ x, ∀ v ∈ enc x, v.oneCell' = true) (cf : α → α → Int) (hO : SWO (ltOf cf))
    {g : FuncId} [hg : Fun P g] (hc : ∀ x y : α, Pur P g [.agg (enc x).toArray, .agg (enc y).toArray] (.int .i64 (cf x y))) (v : Value) (l : List α) (hn : l.length < 4611686018427387904) :
    Tri P (ρ.f 6) [v, .func (.func g) #[] #[]] [Sl' E k v l.length (l.flatMap enc)] fun r Γ' => r = .tuple #[] ∧ ∃ l' : List α, l'.Perm l ∧ Γ' = [Sl' E k v l'.length (l'.flatMap enc)] := by
  intro w h st ag
  obtain ⟨ha, hb, e, d, ⟨hl, hh⟩, _⟩ := id st
  rcases hh with ⟨rfl, hz⟩ | ⟨b, cap, rest, rfl, hc1, hc2, hc3⟩
  · obtain rfl : l = [] := List.length_eq_zero_iff.1 hz
    refine (AnyF.slices_SortFunc_none Ly none 0 (.func (.func g) #[] #[]) w).mono ?_
    rintro e w' ⟨rfl, rfl⟩
    exact ⟨_, _, rfl, ⟨rfl, [], .refl _, rfl⟩, Wd.start st ag⟩
  · have hw : w.heap[b]? = some (cel (l.flatMap enc ++ rest) E) := ag b _ (by rw [e]; exact un_left hc3)
    have hlt : b < w.heap.size := (Array.getElem?_eq_some_iff.1 hw).1
    have hcmp : CmpLays P g #[] enc k cf b 0 l.toArray.size w := fun m os dk hs x y => by
      have := hc x y (sortWorldK enc k w b 0 m dk os) (fun _ => none) trivial (fun _ _ hb => by cases hb)
      refine this.mono ?_
      rintro e w' ⟨u, Γ', rfl, ⟨rfl, rfl⟩, hW⟩
      obtain ⟨q, os', hq⟩ := hW.grown
      exact ⟨rfl, q, os', hq⟩
    have H := AnyQ.slices_SortFunc Ly k he.agg he.size enc hk h1 cf hO g #[] b 0 cap l.toArray w hg.cal hcmp (holds_of hk hw) hlt (by simpa using hn)
    refine H.mono ?_
    rintro e w' ⟨rfl, d', n, os, hp, _, rfl⟩
    have hsz : d'.toList.length = l.length := by have := hp.1; simpa using this
    have hperm : d'.toList.Perm l := by
      have h3 := hp.2.2
      have hs1 : d'.size = l.toArray.size := hp.1
      rw [show d'.extract 0 l.toArray.size = d' by rw [← hs1]; simp, show l.toArray.extract 0 l.toArray.size = l.toArray by simp] at h3
      exact h3
    refine ⟨_, _, rfl, ⟨rfl, d'.toList, hperm, rfl⟩, ?_⟩
    unfold sortWorldK
    refine Wd.grow ?_ os
    rw [show d' = d'.toList.toArray by simp, putRow_cel hk (w := Sort.ahead w n) (l := l) (T := E) (rest := rest) hw hsz]
    have hfl : (d'.toList.flatMap enc).length = (l.flatMap enc).length := by rw [flat_len hk, flat_len hk, hsz]
    have hP := PtAt.here b (cel (l.flatMap enc ++ rest) E) [] h ⟨ha, hb, e, d, hc3, trivial⟩
    have hW : Wd w h [Sl' E k (.slice (some ⟨b, 0, none⟩) l.length cap) l.length (l.flatMap enc)] (Sort.ahead w n) := (Wd.start st ag).drew (w.drawn + n)
    obtain ⟨h2, st2, ag2, fr2⟩ := hW
    have hW2 : Wd w h [pt b (cel (l.flatMap enc ++ rest) E)] (Sort.ahead w n) := by
      have h0 := (Wd.start (w := w) (h := h) (Γ := [pt b (cel (l.flatMap enc ++ rest) E)]) ⟨ha, hb, e, d, hc3, trivial⟩ ag).drew (w.drawn + n)
      exact h0
    have h4 := (PtAt.here b (cel (l.flatMap enc ++ rest) E) []).set hW2 (cel (d'.toList.toArray.toList.flatMap enc ++ rest) E)
    simp only [List.toList_toArray] at h4
    refine Wd.mono (fun hx hs => star_head (fun k2 hk2 => ?_) hs) h4
    rw [hsz]
    exact ⟨by rw [hfl, hl], .inr ⟨b, cap, rest, rfl, by rw [List.length_append, hfl, ← List.length_append, hc1], by rw [← hsz] at hc2; exact hsz ▸ hc2, hk2⟩⟩
end Go.Bk

namespace Go.Proofs
open Go.Bk
def m15 (n : Int) : Int := if 15 < n then 15 else n
def litL (g : Fld) (l : List (Pl × C2)) (q : Pl) : C2 := match getM l q with
 | some x => x
 | none => ⟨m15 (g.light q).a, m15 (g.light q).b⟩
theorem litL_some {g : Fld} {l : List (Pl × C2)} {q : Pl} {x : C2} (h : getM l q = some x) : litL g l q = x := by unfold litL; rw [h]
theorem litL_none {g : Fld} {l : List (Pl × C2)} {q : Pl} (h : getM l q = none) : litL g l q = ⟨m15 (g.light q).a, m15 (g.light q).b⟩ := by unfold litL; rw [h]
theorem litL_set (g : Fld) (l : List (Pl × C2)) (q p : Pl) (x : C2) : litL g (setM l q x) p = if p = q then x else litL g l p := by
 by_cases h : p = q
 ·subst h; unfold litL; rw [getM_setM]; simp
 ·unfold litL; rw [getM_setM]; simp [h]
@[reducible] def i64v (n : Int) : Value := .int .i64 n
def cntL (l : List (Pl × Int)) (q : Pl) : Int := (getM l q).getD 0
theorem cntL_v (l : List (Pl × Int)) (q : Pl) : ((getM l q).map i64v).getD (.int .i64 0) = .int .i64 (cntL l q) := by unfold cntL; cases getM l q <;> rfl
theorem cntL_set (l : List (Pl × Int)) (q p : Pl) (n : Int) : cntL (setM l q n) p = if p = q then n else cntL l p := by unfold cntL; rw [getM_setM]; split <;> rfl
theorem c99 (m r : Nat) (s : St) (g : Fld) (bm bf rl : Nat) (l : List (Pl × C2)) (q : Pl) (hq : MayQ q) : Tri Tryz.prog 99 [plv q, .pointer (some ⟨bm, 0, none⟩), .pointer (some ⟨bf, 0, none⟩)] [pt bm (cel [.map (some rl)] 170), pt bf (cel [.iface 24 (mp m)] 82), MpR Pl.v C2.v rl (l), Mb m r s, FieldR r g] (fun v Γ' => v = (litL g l q).v ∧ Γ' = [pt bm (cel [.map (some rl)] 170), pt bf (cel [.iface 24 (mp m)] 82), MpR Pl.v C2.v rl (l), Mb m r s, FieldR r g]) := by
 refine Pcalls (n := 26) Tryz.func99 rfl rfl rfl fun W0 H0 => ?_
 refine SP.r2 ?_
 refine XL.boxA rfl rfl (fun b1 => ?_)
 refine XL.alloc (by rfl) (fun b2 => ?_)
 refine XL.n5 ?_
 refine SP.r2 ?_
 refine XL.l ?_
 refine XL.lA ?_
 refine XL.lookupOk (z := .agg #[.int .u8 0, .int .u8 0]) (k := q) (ek := Pl.v) (ev' := C2.v) (l := l) rfl rfl (by repeat' constructor) (zeroOf (by kernel_rfl)) rfl (fun x hx => ?_) (fun hx => ?_)
 ·refine XL.m ?_
  refine XL.x ?_
  refine XL.x ?_
  refine XL.alloc (by rfl) (fun b3 => ?_)
  refine XL.sA ?_
  refine XL.a ?_
  refine XL.n4 ?_
  refine XL.m ?_
  refine XL.n2 ?_
  refine SP.t ?_
  refine SP.r2 ?_
  refine XL.lA ?_
  refine XL.sA ?_
  refine XL.n2 ?_
  refine SP.ret ?_
  refine Jp.then_ret ?_
  exact Jp.endcG (.inr rfl) rfl (Res.cellA (by rfl)) (Pk.drop (Γ1 := [pt bm (cel [.map (some rl)] 170), pt bf (cel [.iface 24 (mp m)] 82), MpR Pl.v C2.v rl (l), Mb m r s, FieldR r g]) (by repeat' constructor)) ⟨by rw [litL_some hx], rfl⟩
 ·refine XL.m ?_
  refine XL.x ?_
  refine XL.x ?_
  refine XL.alloc (by rfl) (fun b4 => ?_)
  refine XL.sA ?_
  refine XL.a ?_
  refine XL.n4 ?_
  refine XL.m ?_
  refine XL.n2 ?_
  refine SP.f ?_
  refine SP.skip ?_
  refine Jp.n4 ?_
  refine XL.l ?_
  refine XL.lA ?_
  refine XL.ir (r := (g.light q).v) rfl rfl (F_Light m r s g q hq) (by repeat' constructor) rfl ?_
  refine XL.alloc (by rfl) (fun b5 => ?_)
  refine XL.sA ?_
  refine XL.n4 ?_
  refine XL.f ?_
  refine XL.l ?_
  refine XL.min2 rfl rfl rfl rfl ?_
  refine XL.f ?_
  refine XL.l ?_
  refine XL.min2 rfl rfl rfl rfl ?_
  refine XL.build (by rfl) (by rfl) ?_
  refine XL.sA ?_
  refine XL.n2 ?_
  refine SP.ret ?_
  exact Jp.endcG (.inr rfl) rfl (Res.cellA (by rfl)) (Pk.drop (Γ1 := [pt bm (cel [.map (some rl)] 170), pt bf (cel [.iface 24 (mp m)] 82), MpR Pl.v C2.v rl (l), Mb m r s, FieldR r g]) (by repeat' constructor)) ⟨by rw [litL_none hx]; rfl, rfl⟩
theorem klamp_bd (k l : Int) : 0 ≤ klamp k l ∧ klamp k l ≤ 15 := by
 unfold klamp
 by_cases h : MayC k l
 ·rw [if_pos h]; unfold MayC at h; by_cases g : k = 11
  ·rw [if_pos g]; omega
  ·rw [if_neg g]; split <;> omega
 ·rw [if_neg h]; omega
theorem c100 (m r : Nat) (s : St) (g : Fld) (bf : Nat) (q : Pl) (hq : MayQ q) : Tri Tryz.prog 100 [plv q, .pointer (some ⟨bf, 0, none⟩)] [pt bf (cel [.iface 24 (mp m)] 82), Mb m r s, FieldR r g] (fun v Γ' => v = .int .u8 (klamp (g.cell q).a (g.cell q).b) ∧ Γ' = [pt bf (cel [.iface 24 (mp m)] 82), Mb m r s, FieldR r g]) := by
 refine Pcalls (n := 8) Tryz.func100 rfl rfl rfl fun W0 H0 => ?_
 refine SP.know (Rm.know (by repeat' constructor) FieldR.rng) ?_
 intro hrg
 have hc := (hrg q hq).1
 refine SP.r2 ?_
 refine XL.boxA rfl rfl (fun b1 => ?_)
 refine XL.a ?_
 refine XL.n4 ?_
 refine XL.l ?_
 refine XL.lA ?_
 refine XL.ir (r := (g.cell q).v) rfl rfl (F_Cell m r s g q hq) (by repeat' constructor) rfl ?_
 refine XL.cp rfl (c98 _ _ hc.1 hc.2.1 hc.2.2.1 hc.2.2.2) rfl ?_
 refine XL.a ?_
 refine XL.n2 ?_
 refine SP.ret ?_
 exact Jp.go (Pk.drop (Γ1 := [pt bf (cel [.iface 24 (mp m)] 82), Mb m r s, FieldR r g]) (by repeat' constructor)) (Jp.end1 (.inr rfl) rfl rfl ⟨rfl, rfl⟩)
theorem c101 (m r : Nat) (s : St) (g : Fld) (bm bf bl rl : Nat) (l : List (Pl × C2)) (q : Pl) (hq : MayQ q) : Tri Tryz.prog 101 [plv q, .pointer (some ⟨bl, 0, none⟩)] [pt bm (cel [.map (some rl)] 170), pt bf (cel [.iface 24 (mp m)] 82), pt bl (cel [.func (.func 99) #[] #[.pointer (some ⟨bm, 0, none⟩), .pointer (some ⟨bf, 0, none⟩)]] 127), MpR Pl.v C2.v rl (l), Mb m r s, FieldR r g] (fun v Γ' => v = .int .u8 (litL g l q).b ∧ Γ' = [pt bm (cel [.map (some rl)] 170), pt bf (cel [.iface 24 (mp m)] 82), pt bl (cel [.func (.func 99) #[] #[.pointer (some ⟨bm, 0, none⟩), .pointer (some ⟨bf, 0, none⟩)]] 127), MpR Pl.v C2.v rl (l), Mb m r s, FieldR r g]) := by
 refine Pcalls (n := 8) Tryz.func101 rfl rfl rfl fun W0 H0 => ?_
 refine SP.r2 ?_
 refine XL.boxA rfl rfl (fun b1 => ?_)
 refine XL.a ?_
 refine XL.n4 ?_
 refine XL.l ?_
 refine XL.lA ?_
 refine XL.vr (v1 := []) (v2 := [.pointer (some ⟨bm, 0, none⟩), .pointer (some ⟨bf, 0, none⟩)]) rfl rfl (c99 m r s g bm bf rl l q hq) (by repeat' constructor) rfl ?_
 refine XL.field (by rfl) (by rfl) ?_
 refine XL.a ?_
 refine XL.n2 ?_
 refine SP.ret ?_
 exact Jp.go (Pk.drop (Γ1 := [pt bm (cel [.map (some rl)] 170), pt bf (cel [.iface 24 (mp m)] 82), pt bl (cel [.func (.func 99) #[] #[.pointer (some ⟨bm, 0, none⟩), .pointer (some ⟨bf, 0, none⟩)]] 127), MpR Pl.v C2.v rl (l), Mb m r s, FieldR r g]) (by repeat' constructor)) (Jp.end1 (.inr rfl) rfl rfl ⟨rfl, rfl⟩)
theorem c106 (m r : Nat) (s : St) (g : Fld) (bm bf bl rl : Nat) (l : List (Pl × C2)) (q : Pl) (hq : MayQ q) : Tri Tryz.prog 106 [plv q, .pointer (some ⟨bl, 0, none⟩)] [pt bm (cel [.map (some rl)] 170), pt bf (cel [.iface 24 (mp m)] 82), pt bl (cel [.func (.func 99) #[] #[.pointer (some ⟨bm, 0, none⟩), .pointer (some ⟨bf, 0, none⟩)]] 127), MpR Pl.v C2.v rl (l), Mb m r s, FieldR r g] (fun v Γ' => v = .int .u8 (litL g l q).a ∧ Γ' = [pt bm (cel [.map (some rl)] 170), pt bf (cel [.iface 24 (mp m)] 82), pt bl (cel [.func (.func 99) #[] #[.pointer (some ⟨bm, 0, none⟩), .pointer (some ⟨bf, 0, none⟩)]] 127), MpR Pl.v C2.v rl (l), Mb m r s, FieldR r g]) := by
 refine Pcalls (n := 8) Tryz.func106 rfl rfl rfl fun W0 H0 => ?_
 refine SP.r2 ?_
 refine XL.boxA rfl rfl (fun b1 => ?_)
 refine XL.a ?_
 refine XL.n4 ?_
 refine XL.l ?_
 refine XL.lA ?_
 refine XL.vr (v1 := []) (v2 := [.pointer (some ⟨bm, 0, none⟩), .pointer (some ⟨bf, 0, none⟩)]) rfl rfl (c99 m r s g bm bf rl l q hq) (by repeat' constructor) rfl ?_
 refine XL.field (by rfl) (by rfl) ?_
 refine XL.a ?_
 refine XL.n2 ?_
 refine SP.ret ?_
 exact Jp.go (Pk.drop (Γ1 := [pt bm (cel [.map (some rl)] 170), pt bf (cel [.iface 24 (mp m)] 82), pt bl (cel [.func (.func 99) #[] #[.pointer (some ⟨bm, 0, none⟩), .pointer (some ⟨bf, 0, none⟩)]] 127), MpR Pl.v C2.v rl (l), Mb m r s, FieldR r g]) (by repeat' constructor)) (Jp.end1 (.inr rfl) rfl rfl ⟨rfl, rfl⟩)
theorem c102 (m r : Nat) (s : St) (g : Fld) (bm bf bl rl : Nat) (l : List (Pl × C2)) (q : Pl) (hq : MayQ q) (n : Int) : Tri Tryz.prog 102 [plv q, .int .u8 n, .pointer (some ⟨bl, 0, none⟩), .pointer (some ⟨bm, 0, none⟩)] [pt bm (cel [.map (some rl)] 170), pt bf (cel [.iface 24 (mp m)] 82), pt bl (cel [.func (.func 99) #[] #[.pointer (some ⟨bm, 0, none⟩), .pointer (some ⟨bf, 0, none⟩)]] 127), MpR Pl.v C2.v rl (l), Mb m r s, FieldR r g] (fun v Γ' => v = .tuple #[] ∧ Γ' = [pt bm (cel [.map (some rl)] 170), pt bf (cel [.iface 24 (mp m)] 82), pt bl (cel [.func (.func 99) #[] #[.pointer (some ⟨bm, 0, none⟩), .pointer (some ⟨bf, 0, none⟩)]] 127), MpR Pl.v C2.v rl (setM l q ⟨(litL g l q).a, n⟩), Mb m r s, FieldR r g]) := by
 refine Pcalls (n := 14) Tryz.func102 rfl rfl rfl fun W0 H0 => ?_
 refine SP.r2 ?_
 refine XL.boxA rfl rfl (fun b1 => ?_)
 refine XL.n2 ?_
 refine SP.tail 8 Tryz.fol (by kernel_rfl) ?_
 refine XL.l ?_
 refine XL.lA ?_
 refine XL.l ?_
 refine XL.lA ?_
 refine XL.vr (v1 := []) (v2 := [.pointer (some ⟨bm, 0, none⟩), .pointer (some ⟨bf, 0, none⟩)]) rfl rfl (c99 m r s g bm bf rl l q hq) (by repeat' constructor) rfl ?_
 refine XL.field (by rfl) (by rfl) ?_
 refine XL.m ?_
 refine XL.build (by rfl) (by rfl) ?_
 refine XL.nilq_tail ?_
 refine XL.mapUpdate (k := q) (v := ⟨(litL g l q).a, n⟩) (ek := Pl.v) (ev' := C2.v) (l := l) rfl rfl rfl (by repeat' constructor) ?_
 refine XL.nil ?_
 exact Jp.go (Pk.drop (Γ1 := [pt bm (cel [.map (some rl)] 170), pt bf (cel [.iface 24 (mp m)] 82), pt bl (cel [.func (.func 99) #[] #[.pointer (some ⟨bm, 0, none⟩), .pointer (some ⟨bf, 0, none⟩)]] 127), MpR Pl.v C2.v rl (setM l q ⟨(litL g l q).a, n⟩), Mb m r s, FieldR r g]) (by repeat' constructor)) (Jp.end0 (.inl rfl) rfl ⟨rfl, rfl⟩)
theorem c107 (m r : Nat) (s : St) (g : Fld) (bm bf bl rl : Nat) (l : List (Pl × C2)) (q : Pl) (hq : MayQ q) (n : Int) : Tri Tryz.prog 107 [plv q, .int .u8 n, .pointer (some ⟨bl, 0, none⟩), .pointer (some ⟨bm, 0, none⟩)] [pt bm (cel [.map (some rl)] 170), pt bf (cel [.iface 24 (mp m)] 82), pt bl (cel [.func (.func 99) #[] #[.pointer (some ⟨bm, 0, none⟩), .pointer (some ⟨bf, 0, none⟩)]] 127), MpR Pl.v C2.v rl (l), Mb m r s, FieldR r g] (fun v Γ' => v = .tuple #[] ∧ Γ' = [pt bm (cel [.map (some rl)] 170), pt bf (cel [.iface 24 (mp m)] 82), pt bl (cel [.func (.func 99) #[] #[.pointer (some ⟨bm, 0, none⟩), .pointer (some ⟨bf, 0, none⟩)]] 127), MpR Pl.v C2.v rl (setM l q ⟨n, (litL g l q).b⟩), Mb m r s, FieldR r g]) := by
 refine Pcalls (n := 14) Tryz.func107 rfl rfl rfl fun W0 H0 => ?_
 refine SP.r2 ?_
 refine XL.boxA rfl rfl (fun b1 => ?_)
 refine XL.n2 ?_
 refine SP.tail 8 Tryz.fol (by kernel_rfl) ?_
 refine XL.l ?_
 refine XL.lA ?_
 refine XL.m ?_
 refine XL.l ?_
 refine XL.lA ?_
 refine XL.vr (v1 := []) (v2 := [.pointer (some ⟨bm, 0, none⟩), .pointer (some ⟨bf, 0, none⟩)]) rfl rfl (c99 m r s g bm bf rl l q hq) (by repeat' constructor) rfl ?_
 refine XL.field (by rfl) (by rfl) ?_
 refine XL.build (by rfl) (by rfl) ?_
 refine XL.nilq_tail ?_
 refine XL.mapUpdate (k := q) (v := ⟨n, (litL g l q).b⟩) (ek := Pl.v) (ev' := C2.v) (l := l) rfl rfl rfl (by repeat' constructor) ?_
 refine XL.nil ?_
 exact Jp.go (Pk.drop (Γ1 := [pt bm (cel [.map (some rl)] 170), pt bf (cel [.iface 24 (mp m)] 82), pt bl (cel [.func (.func 99) #[] #[.pointer (some ⟨bm, 0, none⟩), .pointer (some ⟨bf, 0, none⟩)]] 127), MpR Pl.v C2.v rl (setM l q ⟨n, (litL g l q).b⟩), Mb m r s, FieldR r g]) (by repeat' constructor)) (Jp.end0 (.inl rfl) rfl ⟨rfl, rfl⟩)
theorem c105 (bs rs : Nat) (l : List (Pl × Int)) (q : Pl) : Tri Tryz.prog 105 [plv q, .pointer (some ⟨bs, 0, none⟩)] [pt bs (cel [.map (some rs)] 178), MpR Pl.v i64v rs l] (fun v Γ' => v = .int .u8 (if 0 < cntL l q then 15 else 0) ∧ Γ' = [pt bs (cel [.map (some rs)] 178), MpR Pl.v i64v rs l]) := by
 refine Pcalls (n := 8) Tryz.func105 rfl rfl rfl fun W0 H0 => ?_
 refine SP.r2 ?_
 refine XL.boxA rfl rfl (fun b1 => ?_)
 refine XL.a ?_
 refine XL.n5 ?_
 refine SP.r2 ?_
 refine XL.l ?_
 refine XL.lA ?_
 refine XL.lookup (z := .int .i64 0) (k := q) (ek := Pl.v) (ev' := i64v) (l := l) rfl rfl (by repeat' constructor) (zeroOf (by kernel_rfl)) rfl ?_
 rw [cntL_v]
 refine XL.gtr_s rfl rfl rfl (fun hc => ?_) (fun hc => ?_)
 ·refine XL.n2 ?_
  refine SP.t ?_
  refine SP.r2 ?_
  refine XL.a ?_
  refine XL.n2 ?_
  refine SP.ret ?_
  refine Jp.then_ret ?_
  exact Jp.go (Pk.drop (Γ1 := [pt bs (cel [.map (some rs)] 178), MpR Pl.v i64v rs l]) (by repeat' constructor)) (Jp.end1 (.inr rfl) rfl rfl ⟨by rw [if_pos hc], rfl⟩)
 ·refine XL.n2 ?_
  refine SP.f ?_
  refine SP.skip ?_
  refine Jp.n4 ?_
  refine XL.a ?_
  refine XL.n2 ?_
  refine SP.ret ?_
  exact Jp.go (Pk.drop (Γ1 := [pt bs (cel [.map (some rs)] 178), MpR Pl.v i64v rs l]) (by repeat' constructor)) (Jp.end1 (.inr rfl) rfl rfl ⟨by rw [if_neg hc], rfl⟩)
theorem c110 (rl : Nat) (l : List (Pl × C2)) : Tri Tryz.prog 110 [.map (some rl)] [MpR Pl.v C2.v rl l] (fun v Γ' => ∃ r', v = .map (some r') ∧ Γ' = [MpR Pl.v C2.v r' l, MpR Pl.v C2.v rl l]) := by
 refine Pcalls (n := 9) Tryz.func110 rfl rfl rfl fun W0 H0 => ?_
 refine SP.r2 ?_
 refine XL.a ?_
 refine XL.n5 ?_
 refine SP.r2 ?_
 refine XL.m ?_
 refine XL.mnnil_eql rfl Tryz.underlying170 rfl ?_
 refine XL.n2 ?_
 refine SP.f ?_
 refine SP.skip ?_
 refine Jp.n4 ?_
 refine XL.m ?_
 refine XL.makeIface rfl Tryz.underlying170 rfl rfl ?_
 refine clone_run (ek := Pl.v) (ev' := C2.v) (l := l) rfl (by repeat' constructor) rfl (fun r2 => ?_)
 refine XL.assertT rfl Tryz.underlying170 rfl rfl ?_
 refine XL.a ?_
 refine XL.n2 ?_
 refine SP.ret ?_
 exact Jp.go (Pk.drop (Γ1 := [MpR Pl.v C2.v r2 l, MpR Pl.v C2.v rl l]) (by repeat' constructor)) (Jp.end1 (.inr rfl) rfl rfl ⟨r2, rfl, rfl⟩)
end Go.Proofs

namespace Go.Proofs
open Go.Bk Go.Sort Go.Shelf
def Tryz.sortPl_ren : Go.Shelf.Ren := ⟨fun | 6 => 109 | 15 => 40 | 14 => 123 | 28 => 71 | 29 => 72 | 20 => 137 | 21 => 138 | 22 => 139 | 23 => 140 | 24 => 141 | 25 => 142 | 26 => 143 | 27 => 144 | 46 => 158 | 47 => 91 | 48 => 92 | 49 => 159 | 50 => 160 | 57 => 163 | n => n, fun | 22 => 61 | 24 => 49 | 25 => 100 | 3 => 3 | 39 => 99 | 0 => 0 | 53 => 142 | 55 => 22 | 4 => 4 | 46 => 135 | 45 => 134 | 50 => 139 | 5 => 5 | 9 => 9 | 66 => 161 | 70 => 165 | 76 => 210 | 77 => 94 | n => n, fun | n => n⟩
theorem Tryz.sortPl : Go.Proofs.SlLaysF0.n6 Tryz.prog Tryz.sortPl_ren := {
 mixed := by kernel_rfl
 f6 := ⟨Tryz.f109.name, by decide, Tryz.func109.trans (congrArg some (by kernel_rfl))⟩
 f14 := ⟨Tryz.f123.name, by decide, Tryz.func123.trans (congrArg some (by kernel_rfl))⟩
 f15 := Tryz.func40.trans (congrArg some (by kernel_rfl))
 f20 := ⟨Tryz.f137.name, by decide, Tryz.func137.trans (congrArg some (by kernel_rfl))⟩
 f21 := ⟨Tryz.f138.name, by decide, Tryz.func138.trans (congrArg some (by kernel_rfl))⟩
 f22 := ⟨Tryz.f139.name, by decide, Tryz.func139.trans (congrArg some (by kernel_rfl))⟩
 f23 := ⟨Tryz.f140.name, by decide, Tryz.func140.trans (congrArg some (by kernel_rfl))⟩
 f24 := ⟨Tryz.f141.name, by decide, Tryz.func141.trans (congrArg some (by kernel_rfl))⟩
 f25 := ⟨Tryz.f142.name, by decide, Tryz.func142.trans (congrArg some (by kernel_rfl))⟩
 f26 := ⟨Tryz.f143.name, by decide, Tryz.func143.trans (congrArg some (by kernel_rfl))⟩
 f27 := ⟨Tryz.f144.name, by decide, Tryz.func144.trans (congrArg some (by kernel_rfl))⟩
 f28 := Tryz.func71.trans (congrArg some (by kernel_rfl))
 f29 := Tryz.func72.trans (congrArg some (by kernel_rfl))
 f46 := ⟨Tryz.f158.name, by decide, Tryz.func158.trans (congrArg some (by kernel_rfl))⟩
 f47 := Tryz.func91.trans (congrArg some (by kernel_rfl))
 f48 := Tryz.func92.trans (congrArg some (by kernel_rfl))
 f49 := ⟨Tryz.f159.name, by decide, Tryz.func159.trans (congrArg some (by kernel_rfl))⟩
 f50 := ⟨Tryz.f160.name, by decide, Tryz.func160.trans (congrArg some (by kernel_rfl))⟩
 f57 := ⟨Tryz.f163.name, by decide, Tryz.func163.trans (congrArg some (by kernel_rfl))⟩
 t0 := Tryz.underlying0
 a0 := Tryz.isAgg0
 z0 := Tryz.sizeOf0
 v0 := Tryz.zeroValue0
 t3 := Tryz.underlying3
 a3 := Tryz.isAgg3
 z3 := Tryz.sizeOf3
 v3 := Tryz.zeroValue3
 t4 := Tryz.underlying4
 a4 := Tryz.isAgg4
 z4 := Tryz.sizeOf4
 v4 := Tryz.zeroValue4
 t5 := Tryz.underlying5
 a5 := Tryz.isAgg5
 z5 := Tryz.sizeOf5
 v5 := Tryz.zeroValue5
 t9 := Tryz.underlying9
 a9 := Tryz.isAgg9
 z9 := Tryz.sizeOf9
 v9 := Tryz.zeroValue9
 t22 := Tryz.underlying61
 a22 := Tryz.isAgg61
 z22 := Tryz.sizeOf61
 v22 := Tryz.zeroValue61
 t25 := Tryz.underlying100
 a25 := Tryz.isAgg100
 z25 := Tryz.sizeOf100
 v25 := Tryz.zeroValue100
 t39 := Tryz.underlying99
 a39 := Tryz.isAgg99
 z39 := Tryz.sizeOf99
 v39 := Tryz.zeroValue99
 t45 := Tryz.underlying134
 a45 := Tryz.isAgg134
 z45 := Tryz.sizeOf134
 v45 := Tryz.zeroValue134
 t46 := Tryz.underlying135
 a46 := Tryz.isAgg135
 z46 := Tryz.sizeOf135
 v46 := Tryz.zeroValue135
 t50 := Tryz.underlying139
 a50 := Tryz.isAgg139
 z50 := Tryz.sizeOf139
 v50 := Tryz.zeroValue139
 t53 := Tryz.underlying142
 a53 := Tryz.isAgg142
 z53 := Tryz.sizeOf142
 v53 := Tryz.zeroValue142
 t55 := Tryz.underlying22
 a55 := Tryz.isAgg22
 z55 := Tryz.sizeOf22
 v55 := Tryz.zeroValue22
 t66 := Tryz.underlying161
 a66 := Tryz.isAgg161
 z66 := Tryz.sizeOf161
 v66 := Tryz.zeroValue161
 t70 := Tryz.underlying165
 a70 := Tryz.isAgg165
 z70 := Tryz.sizeOf165
 v70 := Tryz.zeroValue165
 t76 := Tryz.underlying210
 a76 := Tryz.isAgg210
 z76 := Tryz.sizeOf210
 v76 := Tryz.zeroValue210
 t77 := Tryz.underlying94
 a77 := Tryz.isAgg94
 z77 := Tryz.sizeOf94
 v77 := Tryz.zeroValue94 }
def Tryz.sortSp_ren : Go.Shelf.Ren := ⟨fun | 6 => 21 | 15 => 40 | 14 => 39 | 28 => 71 | 29 => 72 | 20 => 63 | 21 => 64 | 22 => 65 | 23 => 66 | 24 => 67 | 25 => 68 | 26 => 69 | 27 => 70 | 46 => 90 | 47 => 91 | 48 => 92 | 49 => 93 | 50 => 94 | 57 => 118 | n => n, fun | 22 => 28 | 24 => 34 | 25 => 73 | 3 => 3 | 39 => 99 | 0 => 0 | 53 => 142 | 55 => 22 | 4 => 4 | 46 => 135 | 45 => 134 | 50 => 139 | 5 => 5 | 9 => 9 | 66 => 161 | 70 => 165 | 76 => 210 | 77 => 94 | n => n, fun | n => n⟩
theorem Tryz.sortSp : Go.Proofs.SlLaysF0.n6 Tryz.prog Tryz.sortSp_ren := {
 mixed := by kernel_rfl
 f6 := ⟨Tryz.f21.name, by decide, Tryz.func21.trans (congrArg some (by kernel_rfl))⟩
 f14 := ⟨Tryz.f39.name, by decide, Tryz.func39.trans (congrArg some (by kernel_rfl))⟩
 f15 := Tryz.func40.trans (congrArg some (by kernel_rfl))
 f20 := ⟨Tryz.f63.name, by decide, Tryz.func63.trans (congrArg some (by kernel_rfl))⟩
 f21 := ⟨Tryz.f64.name, by decide, Tryz.func64.trans (congrArg some (by kernel_rfl))⟩
 f22 := ⟨Tryz.f65.name, by decide, Tryz.func65.trans (congrArg some (by kernel_rfl))⟩
 f23 := ⟨Tryz.f66.name, by decide, Tryz.func66.trans (congrArg some (by kernel_rfl))⟩
 f24 := ⟨Tryz.f67.name, by decide, Tryz.func67.trans (congrArg some (by kernel_rfl))⟩
 f25 := ⟨Tryz.f68.name, by decide, Tryz.func68.trans (congrArg some (by kernel_rfl))⟩
 f26 := ⟨Tryz.f69.name, by decide, Tryz.func69.trans (congrArg some (by kernel_rfl))⟩
 f27 := ⟨Tryz.f70.name, by decide, Tryz.func70.trans (congrArg some (by kernel_rfl))⟩
 f28 := Tryz.func71.trans (congrArg some (by kernel_rfl))
 f29 := Tryz.func72.trans (congrArg some (by kernel_rfl))
 f46 := ⟨Tryz.f90.name, by decide, Tryz.func90.trans (congrArg some (by kernel_rfl))⟩
 f47 := Tryz.func91.trans (congrArg some (by kernel_rfl))
 f48 := Tryz.func92.trans (congrArg some (by kernel_rfl))
 f49 := ⟨Tryz.f93.name, by decide, Tryz.func93.trans (congrArg some (by kernel_rfl))⟩
 f50 := ⟨Tryz.f94.name, by decide, Tryz.func94.trans (congrArg some (by kernel_rfl))⟩
 f57 := ⟨Tryz.f118.name, by decide, Tryz.func118.trans (congrArg some (by kernel_rfl))⟩
 t0 := Tryz.underlying0
 a0 := Tryz.isAgg0
 z0 := Tryz.sizeOf0
 v0 := Tryz.zeroValue0
 t3 := Tryz.underlying3
 a3 := Tryz.isAgg3
 z3 := Tryz.sizeOf3
 v3 := Tryz.zeroValue3
 t4 := Tryz.underlying4
 a4 := Tryz.isAgg4
 z4 := Tryz.sizeOf4
 v4 := Tryz.zeroValue4
 t5 := Tryz.underlying5
 a5 := Tryz.isAgg5
 z5 := Tryz.sizeOf5
 v5 := Tryz.zeroValue5
 t9 := Tryz.underlying9
 a9 := Tryz.isAgg9
 z9 := Tryz.sizeOf9
 v9 := Tryz.zeroValue9
 t22 := Tryz.underlying28
 a22 := Tryz.isAgg28
 z22 := Tryz.sizeOf28
 v22 := Tryz.zeroValue28
 t25 := Tryz.underlying73
 a25 := Tryz.isAgg73
 z25 := Tryz.sizeOf73
 v25 := Tryz.zeroValue73
 t39 := Tryz.underlying99
 a39 := Tryz.isAgg99
 z39 := Tryz.sizeOf99
 v39 := Tryz.zeroValue99
 t45 := Tryz.underlying134
 a45 := Tryz.isAgg134
 z45 := Tryz.sizeOf134
 v45 := Tryz.zeroValue134
 t46 := Tryz.underlying135
 a46 := Tryz.isAgg135
 z46 := Tryz.sizeOf135
 v46 := Tryz.zeroValue135
 t50 := Tryz.underlying139
 a50 := Tryz.isAgg139
 z50 := Tryz.sizeOf139
 v50 := Tryz.zeroValue139
 t53 := Tryz.underlying142
 a53 := Tryz.isAgg142
 z53 := Tryz.sizeOf142
 v53 := Tryz.zeroValue142
 t55 := Tryz.underlying22
 a55 := Tryz.isAgg22
 z55 := Tryz.sizeOf22
 v55 := Tryz.zeroValue22
 t66 := Tryz.underlying161
 a66 := Tryz.isAgg161
 z66 := Tryz.sizeOf161
 v66 := Tryz.zeroValue161
 t70 := Tryz.underlying165
 a70 := Tryz.isAgg165
 z70 := Tryz.sizeOf165
 v70 := Tryz.zeroValue165
 t76 := Tryz.underlying210
 a76 := Tryz.isAgg210
 z76 := Tryz.sizeOf210
 v76 := Tryz.zeroValue210
 t77 := Tryz.underlying94
 a77 := Tryz.isAgg94
 z77 := Tryz.sizeOf94
 v77 := Tryz.zeroValue94 }
instance : Inhabited Pl := ⟨⟨0, 0, 0⟩⟩
theorem cmpI_spec (a b : Int) : (a < b ∧ cmpI a b = -1) ∨ (a = b ∧ cmpI a b = 0) ∨ (b < a ∧ cmpI a b = 1) := by unfold cmpI; repeat' split <;> omega
theorem cmpP_lt (p q : Pl) : cmpP p q < 0 ↔ (p.x < q.x ∨ p.x = q.x ∧ (p.z < q.z ∨ p.z = q.z ∧ p.y < q.y)) := by
 unfold cmpP
 simp only [orI]
 have h1 := cmpI_spec p.x q.x
 have h2 := cmpI_spec p.z q.z
 have h3 := cmpI_spec p.y q.y
 repeat' split <;> omega
theorem ltOf_cmpP (p q : Pl) : ltOf cmpP p q = decide (p.x < q.x ∨ p.x = q.x ∧ (p.z < q.z ∨ p.z = q.z ∧ p.y < q.y)) := by
 unfold ltOf
 exact decide_eq_decide.2 (cmpP_lt p q)
theorem swo_cmpP : SWO (ltOf cmpP) where
 irrefl x := by rw [ltOf_cmpP]; simp
 trans x y z h1 h2 := by rw [ltOf_cmpP] at *; simp only [decide_eq_true_eq] at *; omega
 ntrans x y z h1 h2 := by rw [ltOf_cmpP] at *; simp only [decide_eq_false_iff_not] at *; omega
theorem c109 (v : Value) (l : List Pl) (hn : l.length ≤ 1000000000) : Tri Tryz.prog 109 [v, .func (.func 41) #[] #[]] [PlS v l] fun r Γ' => r = .tuple #[] ∧ ∃ l' : List Pl, l'.Perm l ∧ Γ' = [PlS v l'] := by
 have := sort_perm (he := (inferInstance : Ag Tryz.prog 49 3)) (E := 49) Tryz.sortPl (enc := Pl.cs) Pl.len (fun x v hv => by simp [Pl.cs] at hv; rcases hv with rfl | rfl | rfl <;> rfl) cmpP swo_cmpP (g := 41) (fun x y => c41 x y) v l (by omega)
 exact this
@[reducible] def SpS (v : Value) (l : List Pl) : Asn := Sl' 34 3 v l.length (l.flatMap Pl.cs)
theorem c21 (v : Value) (l : List Pl) (hn : l.length ≤ 1000000000) : Tri Tryz.prog 21 [v, .func (.func 22) #[] #[]] [SpS v l] fun r Γ' => r = .tuple #[] ∧ ∃ l' : List Pl, l'.Perm l ∧ Γ' = [SpS v l'] := by
 have := sort_perm (he := (inferInstance : Ag Tryz.prog 34 3)) (E := 34) Tryz.sortSp (enc := Pl.cs) Pl.len (fun x v hv => by simp [Pl.cs] at hv; rcases hv with rfl | rfl | rfl <;> rfl) cmpP swo_cmpP (g := 22) (fun x y => c22 x y) v l (by omega)
 exact this
end Go.Proofs

namespace Go.Bk
def ExA {α : Type} (c : α → Prop) (E : α → List Asn) : Asn := fun h => ∃ x, c x ∧ star (E x) h
section
variable {P : Program} {w0 : World} {h0 : Hp} {q : Bool} {ops : Array Oper} {K : Act → World → Prop} {Q : Exit → Act → World → Prop} {rest : List Oper} {n : Nat} {L : Sl} {Γ Γ' Γ1 Γ2 : List Asn} {e : Exit} {cd : Code} {f : FuncId} {vs : List Value}
variable {α : Type} {c c' : α → Prop} {E E' : α → List Asn}
theorem Rm.conv {A B : Asn} {Γ Γ2 : List Asn} (r : Rm A Γ Γ2) (f : ∀ h, A h → B h) : ∀ h, star Γ h → star (B :: Γ2) h := fun h s => star_head f (r.to h s)
theorem MpIt.cur {κ β : Type} {ek : κ → Value} {ev' : β → Value} {b r : Nat} {l left : List (κ × β)} {c : Option (κ × β)} : ∀ h, MpIt ek ev' b r l left c h → MpIt ek ev' b r l left none h := fun h ⟨a1, es, c', seen, a2, a3, a4, a5, _⟩ => ⟨a1, es, c', seen, a2, a3, a4, a5, fun k v e => by cases e⟩
theorem star_app_left {Γ Δ : List Asn} : ∀ h, star (Γ ++ Δ) h → star Γ h := fun h s => by
 obtain ⟨h1, h2, e, d, s1, _⟩ := (star_app Γ Δ).1 s
 rw [e]; exact star_more Γ d s1
theorem Pk.nilr : ∀ Γ : List Asn, Pk Γ Γ []
 | [] => .nil _
 | A :: Γ => .cons (.here A Γ) (Pk.nilr Γ)
theorem ExA.close {x : α} (p : Pk (E x) Γ Γ2) (hc : c x) : ∀ h, star Γ h → star (ExA c E :: Γ2) h := fun h st => by
 have := (star_flat h).2 (p.to h st)
 exact star_head (fun k hk => ⟨x, hc, hk⟩) this
theorem ExA.open (r : Rm (ExA c E) Γ Γ2) : ∀ h, star Γ h → ∃ x, c x ∧ star (E x ++ Γ2) h := fun h st => by
 obtain ⟨h1, h2, e, d, ⟨x, hc, hs⟩, s2⟩ := r.to h st
 exact ⟨x, hc, (star_flat h).1 ⟨h1, h2, e, d, hs, s2⟩⟩
theorem XL.closeEx {x : α} (hc : c x) (p : Pk (E x) Γ Γ2) (k : XL P w0 h0 false ops K Q rest n L (ExA c E :: Γ2)) : XL P w0 h0 false ops K Q rest n L Γ := fun a w fi s => k a w fi (s.mono (ExA.close p hc))
theorem SP.closeEx {x : α} (hc : c x) (p : Pk (E x) Γ Γ2) (k : SP P w0 h0 cd Q n L (ExA c E :: Γ2)) : SP P w0 h0 cd Q n L Γ := fun a w fi s => k a w fi (s.mono (ExA.close p hc))
theorem Wd.openEx (r : Rm (ExA c E) Γ Γ2) {w : World} (s : Wd w0 h0 Γ w) : ∃ x, c x ∧ Wd w0 h0 (E x ++ Γ2) w := by
 obtain ⟨h, st, ag, fr⟩ := s
 obtain ⟨x, hc, st'⟩ := ExA.open r h st
 exact ⟨x, hc, h, st', ag, fr⟩
theorem XL.openEx (r : Rm (ExA c E) Γ Γ2) (k : ∀ x, c x → XL P w0 h0 false ops K Q rest n L (E x ++ Γ2)) : XL P w0 h0 false ops K Q rest n L Γ := fun a w fi s => by
 obtain ⟨x, hc, s'⟩ := s.openEx r; exact k x hc a w fi s'
theorem SP.openEx (r : Rm (ExA c E) Γ Γ2) (k : ∀ x, c x → SP P w0 h0 cd Q n L (E x ++ Γ2)) : SP P w0 h0 cd Q n L Γ := fun a w fi s => by
 obtain ⟨x, hc, s'⟩ := s.openEx r; exact k x hc a w fi s'
theorem Jp.openEx (r : Rm (ExA c E) Γ Γ2) (k : ∀ x, c x → Jp w0 h0 e Q n L (E x ++ Γ2)) : Jp w0 h0 e Q n L Γ := fun a w fi s => by
 obtain ⟨x, hc, s'⟩ := s.openEx r; exact k x hc a w fi s'
theorem Tri.exA {R : Value → Prop} (t : ∀ x, c x → Tri P f vs (E x) fun v Γ' => R v ∧ ∃ y, c' y ∧ Γ' = E' y) : Tri P f vs [ExA c E] fun v Γ' => R v ∧ Γ' = [ExA c' E'] := fun w h st ag => by
 obtain ⟨x, hc, hs⟩ := ExA.open (Rm.here _ _) h st
 rw [List.append_nil] at hs
 refine (t x hc w h hs ag).mono fun e w' ⟨v, Γ', e1, ⟨h1, y, hy, e2⟩, hW⟩ => ?_
 subst e2
 exact ⟨v, _, e1, ⟨h1, rfl⟩, hW.mono fun k hk => ExA.close (Γ2 := []) (Pk.nilr _) hy k hk⟩
theorem Tri.sub {R : Value → Prop} (t : Tri P f vs Γ1 fun v Γ' => R v ∧ Γ' = Γ1) (p : Pk Γ1 Γ Γ2) : Tri P f vs Γ fun v Γ' => R v ∧ Γ' = Γ :=
 Tri.conseq (Tri.pre p.to (Tri.fr t Γ2)) fun v Γ' ⟨Γ'', ⟨h1, h2⟩, h3⟩ => ⟨Γ, ⟨h1, rfl⟩, fun h s => p.from h (by rw [h3, h2] at s; exact s)⟩
end
end Go.Bk
namespace Go.Proofs
open Go.Bk
/-! ### the lights that are reckoned -/
structure LtOk (c : Pl) (l : List (Pl × C2)) : Prop where
 all : ∀ e ∈ l, Nbr c 30 e.1 ∧ 0 ≤ e.2.a ∧ e.2.a ≤ 15 ∧ 0 ≤ e.2.b ∧ e.2.b ≤ 15
 nd : (l.map (·.1)).Nodup
theorem mem_setM {κ β : Type} [DecidableEq κ] {l : List (κ × β)} {k : κ} {v : β} {e : κ × β} (h : e ∈ setM l k v) : e = (k, v) ∨ e ∈ l := by
 induction l with
 | nil => simp [setM] at h; exact .inl h
 | cons p r ih =>
  obtain ⟨a, u⟩ := p
  simp only [setM] at h
  by_cases g : k = a
  ·rw [if_pos g] at h
   rcases List.mem_cons.1 h with rfl | h
   ·exact .inl (by rw [g])
   ·exact .inr (List.mem_cons_of_mem _ h)
  ·rw [if_neg g] at h
   rcases List.mem_cons.1 h with rfl | h
   ·exact .inr (by simp)
   ·exact (ih h).imp id (List.mem_cons_of_mem _)
theorem keys_setM {κ β : Type} [DecidableEq κ] (l : List (κ × β)) (k : κ) (v : β) : (setM l k v).map (·.1) = if k ∈ l.map (·.1) then l.map (·.1) else l.map (·.1) ++ [k] := by
 induction l with
 | nil => simp [setM]
 | cons p r ih =>
  obtain ⟨a, u⟩ := p
  simp only [setM]
  by_cases g : k = a
  ·subst g; simp
  ·rw [if_neg g]
   simp only [List.map_cons, ih, List.mem_cons]
   by_cases h : k ∈ r.map (·.1)
   ·rw [if_pos h, if_pos (.inr h)]
   ·rw [if_neg h, if_neg (by rintro (h' | h'); exact g h'; exact h h')]; rfl
theorem nodup_setM {κ β : Type} [DecidableEq κ] {l : List (κ × β)} (h : (l.map (·.1)).Nodup) (k : κ) (v : β) : ((setM l k v).map (·.1)).Nodup := by
 rw [keys_setM]
 split
 ·exact h
 ·rename_i hk
  rw [List.nodup_append]
  refine ⟨h, by simp, fun a ha b hb => ?_⟩
  obtain rfl : b = k := by simpa using hb
  intro e; subst e; exact hk ha
theorem mem_getM {κ β : Type} [DecidableEq κ] {l : List (κ × β)} {k : κ} {v : β} (h : getM l k = some v) : (k, v) ∈ l := by
 induction l with
 | nil => simp [getM] at h
 | cons p r ih =>
  obtain ⟨a, u⟩ := p
  simp only [getM] at h
  by_cases g : k = a
  ·rw [if_pos g] at h; cases h; rw [g]; simp
  ·rw [if_neg g] at h; exact List.mem_cons_of_mem _ (ih h)
theorem getM_mem {κ β : Type} [DecidableEq κ] {l : List (κ × β)} (hn : (l.map (·.1)).Nodup) {k : κ} {v : β} (h : (k, v) ∈ l) : getM l k = some v := by
 induction l with
 | nil => cases h
 | cons p r ih =>
  obtain ⟨a, u⟩ := p
  simp only [List.map_cons, List.nodup_cons] at hn
  simp only [getM]
  rcases List.mem_cons.1 h with e | h
  ·cases e; rw [if_pos rfl]
  ·have : k ≠ a := fun e => hn.1 (List.mem_map.2 ⟨(k, v), h, e⟩)
   rw [if_neg this]; exact ih hn.2 h
theorem nodup_len {α : Type} [DecidableEq α] : ∀ (l B : List α), l.Nodup → (∀ x ∈ l, x ∈ B) → l.length ≤ B.length
 | [], _, _, _ => Nat.zero_le _
 | x :: l, B, hn, hs => by
  have hx := hs x (by simp)
  have hn' := List.nodup_cons.1 hn
  have := nodup_len l (B.erase x) hn'.2 fun y hy => (List.mem_erase_of_ne (fun e => hn'.1 (by rw [← e]; exact hy))).2 (hs y (List.mem_cons_of_mem _ hy))
  rw [List.length_erase_of_mem hx] at this
  have hpos : 0 < B.length := List.length_pos_of_mem hx
  simp only [List.length_cons]; omega
theorem LtOk.len {c : Pl} {l : List (Pl × C2)} (h : LtOk c l) : l.length ≤ 238144 := by
 have := nodup_len (l.map (·.1)) (box c) h.nd fun x hx => by
  obtain ⟨e, he, rfl⟩ := List.mem_map.1 hx
  exact box_mem (h.all e he).1
 rw [box_len, List.length_map] at this; exact this
theorem LtOk.nil (c : Pl) : LtOk c [] := ⟨fun e h => absurd h (by simp), by simp⟩
theorem LtOk.set {c : Pl} {l : List (Pl × C2)} (h : LtOk c l) {q : Pl} {x : C2} (hq : Nbr c 30 q) (hx : 0 ≤ x.a ∧ x.a ≤ 15 ∧ 0 ≤ x.b ∧ x.b ≤ 15) : LtOk c (setM l q x) := ⟨fun e he => by
 rcases mem_setM he with rfl | he
 ·exact ⟨hq, hx⟩
 ·exact h.all e he, nodup_setM h.nd q x⟩
theorem LtOk.get {c : Pl} {l : List (Pl × C2)} (h : LtOk c l) {q : Pl} {x : C2} (hg : getM l q = some x) : Nbr c 30 q ∧ 0 ≤ x.a ∧ x.a ≤ 15 ∧ 0 ≤ x.b ∧ x.b ≤ 15 := h.all _ (mem_getM hg)
def mkC (k : Bool) (a b : Int) : C2 := if k then ⟨a, b⟩ else ⟨b, a⟩
structure LSc (c : Pl) (k : Bool) (g : Fld) (B A : Pl → Int) (l : List (Pl × C2)) : Prop where
 ok : LtOk c l
 is : ∀ q, MayQ q → litL g l q = mkC k (A q) (B q)
@[reducible] def ptr (b : Nat) : Value := .pointer (some ⟨b, 0, none⟩)
@[reducible] def LSE (m r : Nat) (s : St) (g : Fld) (bf bm bl rl : Nat) (X : List Asn) (l : List (Pl × C2)) : List Asn :=
 pt bm (cel [.map (some rl)] 170) :: pt bf (cel [.iface 24 (mp m)] 82) :: pt bl (cel [.func (.func 99) #[] #[ptr bm, ptr bf]] 127) :: MpR Pl.v C2.v rl l :: Mb m r s :: FieldR r g :: X
def LS (c : Pl) (k : Bool) (m r : Nat) (s : St) (g : Fld) (bf bm bl rl : Nat) (X : List Asn) (B A : Pl → Int) : Asn := ExA (LSc c k g B A) (LSE m r s g bf bm bl rl X)
section
variable (c : Pl) (m r : Nat) (s : St) (g : Fld) (bf bm bl rl : Nat) (X : List Asn) (B A : Pl → Int)
theorem LS.at0 (q : Pl) (hq : MayQ q) : Tri Tryz.prog 101 (plv q :: [ptr bl]) [LS c false m r s g bf bm bl rl X B A] (fun v Γ' => v = .int .u8 (A q) ∧ Γ' = [LS c false m r s g bf bm bl rl X B A]) :=
 Tri.exA fun l hl => Tri.conseq (Tri.fr (c101 m r s g bm bf bl rl l q hq) X) fun v Γ' ⟨Γ'', ⟨h1, h2⟩, h3⟩ => ⟨Γ', ⟨by rw [h1, hl.is q hq]; rfl, l, hl, by rw [h3, h2]; rfl⟩, fun _ h => h⟩
theorem LS.at1 (q : Pl) (hq : MayQ q) : Tri Tryz.prog 106 (plv q :: [ptr bl]) [LS c true m r s g bf bm bl rl X B A] (fun v Γ' => v = .int .u8 (A q) ∧ Γ' = [LS c true m r s g bf bm bl rl X B A]) :=
 Tri.exA fun l hl => Tri.conseq (Tri.fr (c106 m r s g bm bf bl rl l q hq) X) fun v Γ' ⟨Γ'', ⟨h1, h2⟩, h3⟩ => ⟨Γ', ⟨by rw [h1, hl.is q hq]; rfl, l, hl, by rw [h3, h2]; rfl⟩, fun _ h => h⟩
theorem LSc.set0 {c : Pl} {g : Fld} {B A : Pl → Int} {l : List (Pl × C2)} (hB : ∀ q, 0 ≤ B q ∧ B q ≤ 15) (hl : LSc c false g B A l) {q : Pl} {n : Int} (hq : Nbr c 30 q) (h0 : 0 ≤ n) (h1 : n ≤ 15) : LSc c false g B (upA A q n) (setM l q ⟨(litL g l q).a, n⟩) := by
 have e : (litL g l q).a = B q := by rw [hl.is q hq.1]; rfl
 have hb := hB q
 refine ⟨hl.ok.set hq ⟨by show 0 ≤ (litL g l q).a; omega, by show (litL g l q).a ≤ 15; omega, h0, h1⟩, fun p hp => ?_⟩
 rw [litL_set]
 by_cases h : p = q
 ·subst h; rw [if_pos rfl, upA_self, e]; rfl
 ·rw [if_neg h, upA_ne _ _ h]; exact hl.is p hp
theorem LSc.set1 {c : Pl} {g : Fld} {B A : Pl → Int} {l : List (Pl × C2)} (hB : ∀ q, 0 ≤ B q ∧ B q ≤ 15) (hl : LSc c true g B A l) {q : Pl} {n : Int} (hq : Nbr c 30 q) (h0 : 0 ≤ n) (h1 : n ≤ 15) : LSc c true g B (upA A q n) (setM l q ⟨n, (litL g l q).b⟩) := by
 have e : (litL g l q).b = B q := by rw [hl.is q hq.1]; rfl
 have hb := hB q
 refine ⟨hl.ok.set hq ⟨h0, h1, by show 0 ≤ (litL g l q).b; omega, by show (litL g l q).b ≤ 15; omega⟩, fun p hp => ?_⟩
 rw [litL_set]
 by_cases h : p = q
 ·subst h; rw [if_pos rfl, upA_self, e]; rfl
 ·rw [if_neg h, upA_ne _ _ h]; exact hl.is p hp
theorem LS.set0 (hB : ∀ q, 0 ≤ B q ∧ B q ≤ 15) (q : Pl) (n : Int) (hq : Nbr c 30 q) (h0 : 0 ≤ n) (h1 : n ≤ 15) :
  Tri Tryz.prog 102 (plv q :: .int .u8 n :: [ptr bl, ptr bm]) [LS c false m r s g bf bm bl rl X B A] (fun v Γ' => v = .tuple #[] ∧ Γ' = [LS c false m r s g bf bm bl rl X B (upA A q n)]) :=
 Tri.exA fun l hl => Tri.conseq (Tri.fr (c102 m r s g bm bf bl rl l q hq.1 n) X) fun v Γ' ⟨Γ'', ⟨h2, h3⟩, h4⟩ => ⟨Γ', ⟨h2, _, hl.set0 hB hq h0 h1, by rw [h4, h3]; rfl⟩, fun _ h => h⟩
theorem LS.set1 (hB : ∀ q, 0 ≤ B q ∧ B q ≤ 15) (q : Pl) (n : Int) (hq : Nbr c 30 q) (h0 : 0 ≤ n) (h1 : n ≤ 15) :
  Tri Tryz.prog 107 (plv q :: .int .u8 n :: [ptr bl, ptr bm]) [LS c true m r s g bf bm bl rl X B A] (fun v Γ' => v = .tuple #[] ∧ Γ' = [LS c true m r s g bf bm bl rl X B (upA A q n)]) :=
 Tri.exA fun l hl => Tri.conseq (Tri.fr (c107 m r s g bm bf bl rl l q hq.1 n) X) fun v Γ' ⟨Γ'', ⟨h2, h3⟩, h4⟩ => ⟨Γ', ⟨h2, _, hl.set1 hB hq h0 h1, by rw [h4, h3]; rfl⟩, fun _ h => h⟩
theorem LS.sub {k : Bool} {f : FuncId} {vs : List Value} {R : Value → Prop} {Γ1 : List Asn} (t : Tri Tryz.prog f vs Γ1 fun v Γ' => R v ∧ Γ' = Γ1) (p : ∀ l, ∃ Γ2, Pk Γ1 (LSE m r s g bf bm bl rl X l) Γ2) :
  Tri Tryz.prog f vs [LS c k m r s g bf bm bl rl X B A] fun v Γ' => R v ∧ Γ' = [LS c k m r s g bf bm bl rl X B A] :=
 Tri.exA fun l hl => by
  obtain ⟨Γ2, hp⟩ := p l
  exact Tri.conseq (Tri.sub t hp) fun v Γ' ⟨h1, h2⟩ => ⟨Γ', ⟨h1, l, hl, h2⟩, fun _ h => h⟩
theorem LS.cell (k : Bool) (q : Pl) (hq : MayQ q) : Tri Tryz.prog 180 [mp m, plv q] [LS c k m r s g bf bm bl rl X B A] (fun v Γ' => v = (g.cell q).v ∧ Γ' = [LS c k m r s g bf bm bl rl X B A]) :=
 LS.sub c m r s g bf bm bl rl X B A (F_Cell m r s g q hq) fun l => ⟨_, by repeat' constructor⟩
theorem LS.own0 (k : Bool) (q : Pl) (hq : MayQ q) : Tri Tryz.prog 100 (plv q :: [ptr bf]) [LS c k m r s g bf bm bl rl X B A] (fun v Γ' => v = .int .u8 (klamp (g.cell q).a (g.cell q).b) ∧ Γ' = [LS c k m r s g bf bm bl rl X B A]) :=
 LS.sub c m r s g bf bm bl rl X B A (c100 m r s g bf q hq) fun l => ⟨_, by repeat' constructor⟩
theorem LS.own1 (k : Bool) (bs rs : Nat) (ls : List (Pl × Int)) (q : Pl) : Tri Tryz.prog 105 (plv q :: [ptr bs]) [LS c k m r s g bf bm bl rl [pt bs (cel [.map (some rs)] 178), MpR Pl.v i64v rs ls] B A] (fun v Γ' => v = .int .u8 (if 0 < cntL ls q then 15 else 0) ∧ Γ' = [LS c k m r s g bf bm bl rl [pt bs (cel [.map (some rs)] 178), MpR Pl.v i64v rs ls] B A]) :=
 LS.sub c m r s g bf bm bl rl _ B A (c105 bs rs ls q) fun l => ⟨_, by repeat' constructor⟩
end
theorem m15_bd {n : Int} (h : 0 ≤ n) : 0 ≤ m15 n ∧ m15 n ≤ 15 := by unfold m15; split <;> omega
theorem m15_zero {n : Int} (h : m15 n = 0) : n = 0 := by unfold m15 at h; split at h <;> omega
def A0L (g : Fld) (q : Pl) : Int := if MayQ q then m15 (g.light q).b else 0
def B0L (g : Fld) (q : Pl) : Int := if MayQ q then m15 (g.light q).a else 0
theorem A0L_bd {g : Fld} (hr : ∀ p, MayQ p → C2.rng (g.cell p) ∧ C2.rng (g.light p)) (q : Pl) : 0 ≤ A0L g q ∧ A0L g q ≤ 15 := by
 unfold A0L; split
 ·rename_i h; exact m15_bd (hr q h).2.2.2.1
 ·omega
theorem B0L_bd {g : Fld} (hr : ∀ p, MayQ p → C2.rng (g.cell p) ∧ C2.rng (g.light p)) (q : Pl) : 0 ≤ B0L g q ∧ B0L g q ≤ 15 := by
 unfold B0L; split
 ·rename_i h; exact m15_bd (hr q h).2.1
 ·omega
theorem LSc.start (c : Pl) (g : Fld) : LSc c false g (B0L g) (A0L g) [] := ⟨LtOk.nil c, fun q hq => by
 rw [litL_none rfl]; unfold mkC A0L B0L; rw [if_pos hq, if_pos hq]; rfl⟩
theorem LSc.flip {c : Pl} {g : Fld} {A B : Pl → Int} {l : List (Pl × C2)} (h : LSc c false g B A l) : LSc c true g A B l := ⟨h.ok, fun q hq => h.is q hq⟩
theorem nbr0 {p : Pl} (h : MayQ p) : Nbr p 0 p := ⟨h, by omega⟩
theorem own15 (ls : List (Pl × Int)) (q : Pl) : 0 ≤ (if 0 < cntL ls q then (15 : Int) else 0) ∧ (if 0 < cntL ls q then (15 : Int) else 0) ≤ 15 := by split <;> omega
theorem cnt_step {ls : List (Pl × Int)} {t : Pl} {i : Nat} (h : ∀ q, 0 ≤ cntL ls q ∧ cntL ls q ≤ (i : Int)) (q : Pl) : 0 ≤ cntL (setM ls t (cntL ls t + 1)) q ∧ cntL (setM ls t (cntL ls t + 1)) q ≤ ((i + 1 : Nat) : Int) := by
 rw [cntL_set]
 split
 ·have := h t; omega
 ·have := h q; omega
theorem lit_zero {g : Fld} {l : List (Pl × C2)} {p : Pl} {out o2 : List Pl} (hz : litL g l p = ⟨0, 0⟩) (ho : ∀ q ∈ out, ∃ x, getM l q = some x) (hc : ∀ x, getM l p = some x → x ≠ g.light p → p ∈ out) (hp : o2.Perm out) :
  (if p ∈ o2 then (getM l p).getD ⟨0, 0⟩ else g.light p) = ⟨0, 0⟩ := by
 cases hg : getM l p with
 | none =>
  have : p ∉ o2 := fun h => by obtain ⟨x, hx⟩ := ho p (hp.mem_iff.1 h); rw [hg] at hx; cases hx
  rw [if_neg this]
  rw [litL_none hg] at hz
  have e1 : m15 (g.light p).a = 0 := congrArg C2.a hz
  have e2 : m15 (g.light p).b = 0 := congrArg C2.b hz
  have h1 := m15_zero e1
  have h2 := m15_zero e2
  generalize g.light p = x at *
  obtain ⟨a, b⟩ := x
  simp only at h1 h2
  rw [h1, h2]
 | some x =>
  rw [litL_some hg] at hz
  subst hz
  by_cases h : p ∈ o2
  ·rw [if_pos h]; rfl
  ·rw [if_neg h]
   by_cases e : (⟨0, 0⟩ : C2) = g.light p
   ·exact e.symm
   ·exact absurd (hp.mem_iff.2 (hc _ hg e)) h
theorem take_lit {g : Fld} {l : List (Pl × C2)} {p t : Pl} {o2 : List Pl} {i : Nat} {x y : C2} (hg : o2[i]? = some t) (hx : getM l t = some x) (h : y = if p ∈ o2.take i then (getM l p).getD ⟨0, 0⟩ else g.light p) :
  (if p = t then x else y) = if p ∈ o2.take (i + 1) then (getM l p).getD ⟨0, 0⟩ else g.light p := by
 have e : o2.take (i + 1) = o2.take i ++ [t] := by rw [List.take_add_one, hg]; rfl
 rw [e]
 by_cases g1 : p = t
 ·subst g1; rw [if_pos rfl, if_pos (by simp), hx]; rfl
 ·rw [if_neg g1, h]; simp [g1]
end Go.Proofs

namespace Go.Proofs
open Go.Bk
theorem c79 (m r : Nat) (s : St) (g : Fld) (p : Pl) (hp : MayQ p) (old : C2) (ho : C2.rng old) : Tri Tryz.prog 79 [.iface 24 (mp m), plv p, c2v old] [Mb m r s, FieldR r g] (fun v Γ' => ∃ (n : Int) (g' : Fld), v = .int .i64 n ∧ g'.cell = g.cell ∧ g'.due = g.due ∧ g'.D = g.D ∧ (clrC old → ¬ clrC (g.cell p) → g'.light p = ⟨0, 0⟩) ∧ Γ' = [Mb m r s, FieldR r g']) := by
 refine Pcalls (n := 152) Tryz.func79 rfl rfl rfl fun W0 H0 => ?_
 refine SP.know (Rm.know (by repeat' constructor) FieldR.rng) ?_
 intro hrg
 refine SP.r2 ?_
 refine XL.box rfl rfl rfl (fun b1 => ?_)
 refine XL.boxA rfl rfl (fun b2 => ?_)
 refine XL.boxA rfl rfl (fun b3 => ?_)
 refine XL.a ?_
 refine XL.n5 ?_
 refine SP.r2 ?_
 refine XL.l ?_
 refine XL.innil_eql rfl Tryz.underlying82 rfl ?_
 refine XL.m ?_
 refine XL.g ?_
 refine XL.lA ?_
 refine XL.g ?_
 refine XL.cp rfl (Pur.t (c48 p.x p.y p.z) hp) rfl ?_
 refine XL.g ?_
 refine XL.not_t rfl rfl ?_
 refine XL.pick_f rfl rfl rfl ?_
 refine XL.n2 ?_
 refine SP.f ?_
 refine SP.skip ?_
 refine Jp.n4 ?_
 refine XL.l ?_
 refine XL.lA ?_
 refine XL.ir (r := (g.cell p).v) rfl rfl (F_Cell m r s g p hp) (by repeat' constructor) rfl ?_
 refine XL.alloc (by rfl) (fun b4 => ?_)
 refine XL.sA ?_
 refine XL.n2 ?_
 refine SP.share2 (X := Bool × Bool) (fun w => [(3, .pointer (some ⟨b1, 0, none⟩)), (4, .pointer (some ⟨b2, 0, none⟩)), (8, .bool w.1), (9, .bool w.2)]) (fun w => [pt b1 (cel [.iface 24 (mp m)] 82), pt b2 (cel [.int .i64 p.x, .int .i64 p.y, .int .i64 p.z] 49), Mb m r s, FieldR r g]) (fun w => (w.1 = true ↔ clrC old) ∧ (w.2 = true ↔ clrC (g.cell p))) ?_ (fun hsh7 => ?_)
 ·rintro ⟨was, is⟩ ⟨hwas, his⟩
  dsimp only at *
  refine SP.r2 ?_
  refine XL.makeMap (ek := Pl.v) (ev' := C2.v) rfl (fun m1 => ?_)
  refine XL.alloc (by rfl) (fun b5 => ?_)
  refine XL.store (by rfl) (by rfl) (by rfl) ?_
  refine XL.n4 ?_
  refine XL.makeFunc (l1 := []) (l2 := [.tmp 10, .tmp 3]) rfl rfl rfl ?_
  refine XL.alloc (by rfl) (fun b6 => ?_)
  refine XL.store (by rfl) (by rfl) (by rfl) ?_
  refine XL.n4 ?_
  refine XL.l ?_
  refine XL.makeFunc (l1 := []) (l2 := [.tmp 3]) rfl rfl rfl ?_
  refine XL.makeFunc (l1 := []) (l2 := [.tmp 11]) rfl rfl rfl ?_
  refine XL.makeFunc (l1 := []) (l2 := [.tmp 11, .tmp 10]) rfl rfl rfl ?_
  refine XL.build (by rfl) (by rfl) ?_
  refine XL.alloc (by rfl) (fun b7 => ?_)
  refine XL.sA ?_
  refine XL.closeEx (c := LSc p false g (B0L g) (A0L g)) (E := LSE m r s g b1 b5 b6 m1 []) (x := []) (LSc.start p g) (by repeat' constructor) ?_
  refine XL.n2 ?_
  refine SP.cut (X := Pl → Int) (fun w => [(3, .pointer (some ⟨b1, 0, none⟩)), (4, .pointer (some ⟨b2, 0, none⟩)), (8, .bool was), (9, .bool is), (10, .pointer (some ⟨b5, 0, none⟩)), (11, .pointer (some ⟨b6, 0, none⟩))]) (fun w => [LS p false m r s g b1 b5 b6 m1 [] (B0L g) w, pt b2 (cel [.int .i64 p.x, .int .i64 p.y, .int .i64 p.z] 49)]) (fun w => (∀ q, 0 ≤ w q ∧ w q ≤ 15) ∧ (¬ clrC (g.cell p) → w p = 0)) ?_ ?_
  ·refine SP.any (m := 6) Tryz.fol rfl ?_
   refine XA.many [0, 1, 2] (by kernel_rfl) rfl ?_
   refine XO.cons (i := 0) rfl rfl ?_ ?_
   ·refine XL.lA ?_
    refine XL.on ?_
    refine XA.two (i := 1) (j := 2) rfl rfl (by kernel_rfl) rfl rfl ?_ ?_
    ·refine XL.lA ?_
     refine XL.on ?_
     refine XA.o 2 ?_
     refine XL.lA ?_
     refine XL.on ?_
     refine XA.o 3 ?_
     refine XL.buildSlice (by rfl) (by rfl) (by rfl) (by decide) rfl (fun bp => ?_)
     refine XL.lit 1 (k := 3) (b := bp) (by repeat' constructor) rfl ?_
     refine XL.on ?_
     refine XA.o 4 ?_
     refine XL.cw rfl (c104 p m 100 101 102 [ptr b1] [ptr b6] [ptr b6, ptr b5] (fun A => LS p false m r s g b1 b5 b6 m1 [] (B0L g) A) (fun A q hq => LS.at0 p m r s g b1 b5 b6 m1 [] (B0L g) A q hq) (fun A q n hq h0 h1 => LS.set0 p m r s g b1 b5 b6 m1 [] (B0L g) A (B0L_bd hrg) q n hq h0 h1) (A0L g) (A0L_bd hrg) _ [p] (by simp) (fun q hq => by rw [show q = p by simpa using hq]; exact nbr0 hp)) (by repeat' constructor) rfl ?_
     rintro v5 _ ⟨l5, A5, hA5, hz5, hn5, hl5, rfl⟩
     refine XL.app2 ?_
     refine XL.on ?_
     refine XA.o 5 ?_
     refine XL.cw rfl (c103 p m 100 101 102 [ptr b1] [ptr b6] [ptr b6, ptr b5] (fun A => LS p false m r s g b1 b5 b6 m1 [] (B0L g) A) (fun A q hq => LS.at0 p m r s g b1 b5 b6 m1 [] (B0L g) A q hq) (fun A q n hq h0 h1 => LS.set0 p m r s g b1 b5 b6 m1 [] (B0L g) A (B0L_bd hrg) q n hq h0 h1) (fun q => klamp (g.cell q).a (g.cell q).b) (fun q => klamp_bd _ _) (fun A q hq => LS.own0 p m r s g b1 b5 b6 m1 [] (B0L g) A false q hq) g.cell (fun q hq => (hrg q hq).1) (fun A q hq => LS.cell p m r s g b1 b5 b6 m1 [] (B0L g) A false q hq) A5 (fun q => ⟨(hA5 q).1, Int.le_trans (hA5 q).2 (A0L_bd hrg q).2⟩) v5 l5 hl5 hn5) (by repeat' constructor) rfl ?_
     rintro _ _ ⟨rfl, A6, hB6, rfl⟩
     refine XL.app1 ?_
     refine XL.on ?_
     refine XA.done (by kernel_rfl) ?_
     refine Jp.mt A6 ⟨hB6.a, fun hc => (hB6.k p hc).trans (hz5 p (by simp))⟩
    ·refine XL.lA ?_
     refine XL.on ?_
     refine XA.two (i := 1) (j := 3) rfl rfl (by kernel_rfl) rfl rfl ?_ ?_
     ·refine XL.lA ?_
      refine XL.on ?_
      refine XA.o 3 ?_
      refine XL.buildSlice (by rfl) (by rfl) (by rfl) (by decide) rfl (fun bp => ?_)
      refine XL.lit 1 (k := 3) (b := bp) (by repeat' constructor) rfl ?_
      refine XL.on ?_
      refine XA.o 4 ?_
      refine XL.cw rfl (c104 p m 100 101 102 [ptr b1] [ptr b6] [ptr b6, ptr b5] (fun A => LS p false m r s g b1 b5 b6 m1 [] (B0L g) A) (fun A q hq => LS.at0 p m r s g b1 b5 b6 m1 [] (B0L g) A q hq) (fun A q n hq h0 h1 => LS.set0 p m r s g b1 b5 b6 m1 [] (B0L g) A (B0L_bd hrg) q n hq h0 h1) (A0L g) (A0L_bd hrg) _ [p] (by simp) (fun q hq => by rw [show q = p by simpa using hq]; exact nbr0 hp)) (by repeat' constructor) rfl ?_
      rintro v5 _ ⟨l5, A5, hA5, hz5, hn5, hl5, rfl⟩
      refine XL.app2 ?_
      refine XL.on ?_
      refine XA.o 5 ?_
      refine XL.cw rfl (c103 p m 100 101 102 [ptr b1] [ptr b6] [ptr b6, ptr b5] (fun A => LS p false m r s g b1 b5 b6 m1 [] (B0L g) A) (fun A q hq => LS.at0 p m r s g b1 b5 b6 m1 [] (B0L g) A q hq) (fun A q n hq h0 h1 => LS.set0 p m r s g b1 b5 b6 m1 [] (B0L g) A (B0L_bd hrg) q n hq h0 h1) (fun q => klamp (g.cell q).a (g.cell q).b) (fun q => klamp_bd _ _) (fun A q hq => LS.own0 p m r s g b1 b5 b6 m1 [] (B0L g) A false q hq) g.cell (fun q hq => (hrg q hq).1) (fun A q hq => LS.cell p m r s g b1 b5 b6 m1 [] (B0L g) A false q hq) A5 (fun q => ⟨(hA5 q).1, Int.le_trans (hA5 q).2 (A0L_bd hrg q).2⟩) v5 l5 hl5 hn5) (by repeat' constructor) rfl ?_
      rintro _ _ ⟨rfl, A6, hB6, rfl⟩
      refine XL.app1 ?_
      refine XL.on ?_
      refine XA.done (by kernel_rfl) ?_
      refine Jp.mt A6 ⟨hB6.a, fun hc => (hB6.k p hc).trans (hz5 p (by simp))⟩
     ·refine XL.buildSlice (by rfl) (by rfl) (by rfl) (by decide) rfl (fun bp => ?_)
      refine XL.lit 1 (k := 3) (b := bp) (by repeat' constructor) rfl ?_
      refine XL.on ?_
      refine XA.o 1 ?_
      refine XL.lA ?_
      refine XL.on ?_
      refine XA.o 4 ?_
      refine XL.cw rfl (c104 p m 100 101 102 [ptr b1] [ptr b6] [ptr b6, ptr b5] (fun A => LS p false m r s g b1 b5 b6 m1 [] (B0L g) A) (fun A q hq => LS.at0 p m r s g b1 b5 b6 m1 [] (B0L g) A q hq) (fun A q n hq h0 h1 => LS.set0 p m r s g b1 b5 b6 m1 [] (B0L g) A (B0L_bd hrg) q n hq h0 h1) (A0L g) (A0L_bd hrg) _ [p] (by simp) (fun q hq => by rw [show q = p by simpa using hq]; exact nbr0 hp)) (by repeat' constructor) rfl ?_
      rintro v5 _ ⟨l5, A5, hA5, hz5, hn5, hl5, rfl⟩
      refine XL.app2 ?_
      refine XL.on ?_
      refine XA.o 5 ?_
      refine XL.cw rfl (c103 p m 100 101 102 [ptr b1] [ptr b6] [ptr b6, ptr b5] (fun A => LS p false m r s g b1 b5 b6 m1 [] (B0L g) A) (fun A q hq => LS.at0 p m r s g b1 b5 b6 m1 [] (B0L g) A q hq) (fun A q n hq h0 h1 => LS.set0 p m r s g b1 b5 b6 m1 [] (B0L g) A (B0L_bd hrg) q n hq h0 h1) (fun q => klamp (g.cell q).a (g.cell q).b) (fun q => klamp_bd _ _) (fun A q hq => LS.own0 p m r s g b1 b5 b6 m1 [] (B0L g) A false q hq) g.cell (fun q hq => (hrg q hq).1) (fun A q hq => LS.cell p m r s g b1 b5 b6 m1 [] (B0L g) A false q hq) A5 (fun q => ⟨(hA5 q).1, Int.le_trans (hA5 q).2 (A0L_bd hrg q).2⟩) v5 l5 hl5 hn5) (by repeat' constructor) rfl ?_
      rintro _ _ ⟨rfl, A6, hB6, rfl⟩
      refine XL.app1 ?_
      refine XL.on ?_
      refine XA.done (by kernel_rfl) ?_
      refine Jp.mt A6 ⟨hB6.a, fun hc => (hB6.k p hc).trans (hz5 p (by simp))⟩
   refine XO.cons (i := 1) rfl rfl ?_ ?_
   ·refine XL.lA ?_
    refine XL.on ?_
    refine XA.two (i := 0) (j := 2) rfl rfl (by kernel_rfl) rfl rfl ?_ ?_
    ·refine XL.lA ?_
     refine XL.on ?_
     refine XA.o 2 ?_
     refine XL.lA ?_
     refine XL.on ?_
     refine XA.o 3 ?_
     refine XL.buildSlice (by rfl) (by rfl) (by rfl) (by decide) rfl (fun bp => ?_)
     refine XL.lit 1 (k := 3) (b := bp) (by repeat' constructor) rfl ?_
     refine XL.on ?_
     refine XA.o 4 ?_
     refine XL.cw rfl (c104 p m 100 101 102 [ptr b1] [ptr b6] [ptr b6, ptr b5] (fun A => LS p false m r s g b1 b5 b6 m1 [] (B0L g) A) (fun A q hq => LS.at0 p m r s g b1 b5 b6 m1 [] (B0L g) A q hq) (fun A q n hq h0 h1 => LS.set0 p m r s g b1 b5 b6 m1 [] (B0L g) A (B0L_bd hrg) q n hq h0 h1) (A0L g) (A0L_bd hrg) _ [p] (by simp) (fun q hq => by rw [show q = p by simpa using hq]; exact nbr0 hp)) (by repeat' constructor) rfl ?_
     rintro v5 _ ⟨l5, A5, hA5, hz5, hn5, hl5, rfl⟩
     refine XL.app2 ?_
     refine XL.on ?_
     refine XA.o 5 ?_
     refine XL.cw rfl (c103 p m 100 101 102 [ptr b1] [ptr b6] [ptr b6, ptr b5] (fun A => LS p false m r s g b1 b5 b6 m1 [] (B0L g) A) (fun A q hq => LS.at0 p m r s g b1 b5 b6 m1 [] (B0L g) A q hq) (fun A q n hq h0 h1 => LS.set0 p m r s g b1 b5 b6 m1 [] (B0L g) A (B0L_bd hrg) q n hq h0 h1) (fun q => klamp (g.cell q).a (g.cell q).b) (fun q => klamp_bd _ _) (fun A q hq => LS.own0 p m r s g b1 b5 b6 m1 [] (B0L g) A false q hq) g.cell (fun q hq => (hrg q hq).1) (fun A q hq => LS.cell p m r s g b1 b5 b6 m1 [] (B0L g) A false q hq) A5 (fun q => ⟨(hA5 q).1, Int.le_trans (hA5 q).2 (A0L_bd hrg q).2⟩) v5 l5 hl5 hn5) (by repeat' constructor) rfl ?_
     rintro _ _ ⟨rfl, A6, hB6, rfl⟩
     refine XL.app1 ?_
     refine XL.on ?_
     refine XA.done (by kernel_rfl) ?_
     refine Jp.mt A6 ⟨hB6.a, fun hc => (hB6.k p hc).trans (hz5 p (by simp))⟩
    ·refine XL.lA ?_
     refine XL.on ?_
     refine XA.two (i := 0) (j := 3) rfl rfl (by kernel_rfl) rfl rfl ?_ ?_
     ·refine XL.lA ?_
      refine XL.on ?_
      refine XA.o 3 ?_
      refine XL.buildSlice (by rfl) (by rfl) (by rfl) (by decide) rfl (fun bp => ?_)
      refine XL.lit 1 (k := 3) (b := bp) (by repeat' constructor) rfl ?_
      refine XL.on ?_
      refine XA.o 4 ?_
      refine XL.cw rfl (c104 p m 100 101 102 [ptr b1] [ptr b6] [ptr b6, ptr b5] (fun A => LS p false m r s g b1 b5 b6 m1 [] (B0L g) A) (fun A q hq => LS.at0 p m r s g b1 b5 b6 m1 [] (B0L g) A q hq) (fun A q n hq h0 h1 => LS.set0 p m r s g b1 b5 b6 m1 [] (B0L g) A (B0L_bd hrg) q n hq h0 h1) (A0L g) (A0L_bd hrg) _ [p] (by simp) (fun q hq => by rw [show q = p by simpa using hq]; exact nbr0 hp)) (by repeat' constructor) rfl ?_
      rintro v5 _ ⟨l5, A5, hA5, hz5, hn5, hl5, rfl⟩
      refine XL.app2 ?_
      refine XL.on ?_
      refine XA.o 5 ?_
      refine XL.cw rfl (c103 p m 100 101 102 [ptr b1] [ptr b6] [ptr b6, ptr b5] (fun A => LS p false m r s g b1 b5 b6 m1 [] (B0L g) A) (fun A q hq => LS.at0 p m r s g b1 b5 b6 m1 [] (B0L g) A q hq) (fun A q n hq h0 h1 => LS.set0 p m r s g b1 b5 b6 m1 [] (B0L g) A (B0L_bd hrg) q n hq h0 h1) (fun q => klamp (g.cell q).a (g.cell q).b) (fun q => klamp_bd _ _) (fun A q hq => LS.own0 p m r s g b1 b5 b6 m1 [] (B0L g) A false q hq) g.cell (fun q hq => (hrg q hq).1) (fun A q hq => LS.cell p m r s g b1 b5 b6 m1 [] (B0L g) A false q hq) A5 (fun q => ⟨(hA5 q).1, Int.le_trans (hA5 q).2 (A0L_bd hrg q).2⟩) v5 l5 hl5 hn5) (by repeat' constructor) rfl ?_
      rintro _ _ ⟨rfl, A6, hB6, rfl⟩
      refine XL.app1 ?_
      refine XL.on ?_
      refine XA.done (by kernel_rfl) ?_
      refine Jp.mt A6 ⟨hB6.a, fun hc => (hB6.k p hc).trans (hz5 p (by simp))⟩
     ·refine XL.buildSlice (by rfl) (by rfl) (by rfl) (by decide) rfl (fun bp => ?_)
      refine XL.lit 1 (k := 3) (b := bp) (by repeat' constructor) rfl ?_
      refine XL.on ?_
      refine XA.two (i := 0) (j := 4) rfl rfl (by kernel_rfl) rfl rfl ?_ ?_
      ·refine XL.lA ?_
       refine XL.on ?_
       refine XA.o 4 ?_
       refine XL.cw rfl (c104 p m 100 101 102 [ptr b1] [ptr b6] [ptr b6, ptr b5] (fun A => LS p false m r s g b1 b5 b6 m1 [] (B0L g) A) (fun A q hq => LS.at0 p m r s g b1 b5 b6 m1 [] (B0L g) A q hq) (fun A q n hq h0 h1 => LS.set0 p m r s g b1 b5 b6 m1 [] (B0L g) A (B0L_bd hrg) q n hq h0 h1) (A0L g) (A0L_bd hrg) _ [p] (by simp) (fun q hq => by rw [show q = p by simpa using hq]; exact nbr0 hp)) (by repeat' constructor) rfl ?_
       rintro v5 _ ⟨l5, A5, hA5, hz5, hn5, hl5, rfl⟩
       refine XL.app2 ?_
       refine XL.on ?_
       refine XA.o 5 ?_
       refine XL.cw rfl (c103 p m 100 101 102 [ptr b1] [ptr b6] [ptr b6, ptr b5] (fun A => LS p false m r s g b1 b5 b6 m1 [] (B0L g) A) (fun A q hq => LS.at0 p m r s g b1 b5 b6 m1 [] (B0L g) A q hq) (fun A q n hq h0 h1 => LS.set0 p m r s g b1 b5 b6 m1 [] (B0L g) A (B0L_bd hrg) q n hq h0 h1) (fun q => klamp (g.cell q).a (g.cell q).b) (fun q => klamp_bd _ _) (fun A q hq => LS.own0 p m r s g b1 b5 b6 m1 [] (B0L g) A false q hq) g.cell (fun q hq => (hrg q hq).1) (fun A q hq => LS.cell p m r s g b1 b5 b6 m1 [] (B0L g) A false q hq) A5 (fun q => ⟨(hA5 q).1, Int.le_trans (hA5 q).2 (A0L_bd hrg q).2⟩) v5 l5 hl5 hn5) (by repeat' constructor) rfl ?_
       rintro _ _ ⟨rfl, A6, hB6, rfl⟩
       refine XL.app1 ?_
       refine XL.on ?_
       refine XA.done (by kernel_rfl) ?_
       refine Jp.mt A6 ⟨hB6.a, fun hc => (hB6.k p hc).trans (hz5 p (by simp))⟩
      ·refine XL.cw rfl (c104 p m 100 101 102 [ptr b1] [ptr b6] [ptr b6, ptr b5] (fun A => LS p false m r s g b1 b5 b6 m1 [] (B0L g) A) (fun A q hq => LS.at0 p m r s g b1 b5 b6 m1 [] (B0L g) A q hq) (fun A q n hq h0 h1 => LS.set0 p m r s g b1 b5 b6 m1 [] (B0L g) A (B0L_bd hrg) q n hq h0 h1) (A0L g) (A0L_bd hrg) _ [p] (by simp) (fun q hq => by rw [show q = p by simpa using hq]; exact nbr0 hp)) (by repeat' constructor) rfl ?_
       rintro v5 _ ⟨l5, A5, hA5, hz5, hn5, hl5, rfl⟩
       refine XL.app2 ?_
       refine XL.on ?_
       refine XA.o 0 ?_
       refine XL.lA ?_
       refine XL.on ?_
       refine XA.o 5 ?_
       refine XL.cw rfl (c103 p m 100 101 102 [ptr b1] [ptr b6] [ptr b6, ptr b5] (fun A => LS p false m r s g b1 b5 b6 m1 [] (B0L g) A) (fun A q hq => LS.at0 p m r s g b1 b5 b6 m1 [] (B0L g) A q hq) (fun A q n hq h0 h1 => LS.set0 p m r s g b1 b5 b6 m1 [] (B0L g) A (B0L_bd hrg) q n hq h0 h1) (fun q => klamp (g.cell q).a (g.cell q).b) (fun q => klamp_bd _ _) (fun A q hq => LS.own0 p m r s g b1 b5 b6 m1 [] (B0L g) A false q hq) g.cell (fun q hq => (hrg q hq).1) (fun A q hq => LS.cell p m r s g b1 b5 b6 m1 [] (B0L g) A false q hq) A5 (fun q => ⟨(hA5 q).1, Int.le_trans (hA5 q).2 (A0L_bd hrg q).2⟩) v5 l5 hl5 hn5) (by repeat' constructor) rfl ?_
       rintro _ _ ⟨rfl, A6, hB6, rfl⟩
       refine XL.app1 ?_
       refine XL.on ?_
       refine XA.done (by kernel_rfl) ?_
       refine Jp.mt A6 ⟨hB6.a, fun hc => (hB6.k p hc).trans (hz5 p (by simp))⟩
   refine XO.cons (i := 2) rfl rfl ?_ ?_
   ·refine XL.lA ?_
    refine XL.on ?_
    refine XA.many [0, 1, 3] (by kernel_rfl) rfl ?_
    refine XO.cons (i := 0) rfl rfl ?_ ?_
    ·refine XL.lA ?_
     refine XL.on ?_
     refine XA.two (i := 1) (j := 3) rfl rfl (by kernel_rfl) rfl rfl ?_ ?_
     ·refine XL.lA ?_
      refine XL.on ?_
      refine XA.o 3 ?_
      refine XL.buildSlice (by rfl) (by rfl) (by rfl) (by decide) rfl (fun bp => ?_)
      refine XL.lit 1 (k := 3) (b := bp) (by repeat' constructor) rfl ?_
      refine XL.on ?_
      refine XA.o 4 ?_
      refine XL.cw rfl (c104 p m 100 101 102 [ptr b1] [ptr b6] [ptr b6, ptr b5] (fun A => LS p false m r s g b1 b5 b6 m1 [] (B0L g) A) (fun A q hq => LS.at0 p m r s g b1 b5 b6 m1 [] (B0L g) A q hq) (fun A q n hq h0 h1 => LS.set0 p m r s g b1 b5 b6 m1 [] (B0L g) A (B0L_bd hrg) q n hq h0 h1) (A0L g) (A0L_bd hrg) _ [p] (by simp) (fun q hq => by rw [show q = p by simpa using hq]; exact nbr0 hp)) (by repeat' constructor) rfl ?_
      rintro v5 _ ⟨l5, A5, hA5, hz5, hn5, hl5, rfl⟩
      refine XL.app2 ?_
      refine XL.on ?_
      refine XA.o 5 ?_
      refine XL.cw rfl (c103 p m 100 101 102 [ptr b1] [ptr b6] [ptr b6, ptr b5] (fun A => LS p false m r s g b1 b5 b6 m1 [] (B0L g) A) (fun A q hq => LS.at0 p m r s g b1 b5 b6 m1 [] (B0L g) A q hq) (fun A q n hq h0 h1 => LS.set0 p m r s g b1 b5 b6 m1 [] (B0L g) A (B0L_bd hrg) q n hq h0 h1) (fun q => klamp (g.cell q).a (g.cell q).b) (fun q => klamp_bd _ _) (fun A q hq => LS.own0 p m r s g b1 b5 b6 m1 [] (B0L g) A false q hq) g.cell (fun q hq => (hrg q hq).1) (fun A q hq => LS.cell p m r s g b1 b5 b6 m1 [] (B0L g) A false q hq) A5 (fun q => ⟨(hA5 q).1, Int.le_trans (hA5 q).2 (A0L_bd hrg q).2⟩) v5 l5 hl5 hn5) (by repeat' constructor) rfl ?_
      rintro _ _ ⟨rfl, A6, hB6, rfl⟩
      refine XL.app1 ?_
      refine XL.on ?_
      refine XA.done (by kernel_rfl) ?_
      refine Jp.mt A6 ⟨hB6.a, fun hc => (hB6.k p hc).trans (hz5 p (by simp))⟩
     ·refine XL.buildSlice (by rfl) (by rfl) (by rfl) (by decide) rfl (fun bp => ?_)
      refine XL.lit 1 (k := 3) (b := bp) (by repeat' constructor) rfl ?_
      refine XL.on ?_
      refine XA.o 1 ?_
      refine XL.lA ?_
      refine XL.on ?_
      refine XA.o 4 ?_
      refine XL.cw rfl (c104 p m 100 101 102 [ptr b1] [ptr b6] [ptr b6, ptr b5] (fun A => LS p false m r s g b1 b5 b6 m1 [] (B0L g) A) (fun A q hq => LS.at0 p m r s g b1 b5 b6 m1 [] (B0L g) A q hq) (fun A q n hq h0 h1 => LS.set0 p m r s g b1 b5 b6 m1 [] (B0L g) A (B0L_bd hrg) q n hq h0 h1) (A0L g) (A0L_bd hrg) _ [p] (by simp) (fun q hq => by rw [show q = p by simpa using hq]; exact nbr0 hp)) (by repeat' constructor) rfl ?_
      rintro v5 _ ⟨l5, A5, hA5, hz5, hn5, hl5, rfl⟩
      refine XL.app2 ?_
      refine XL.on ?_
      refine XA.o 5 ?_
      refine XL.cw rfl (c103 p m 100 101 102 [ptr b1] [ptr b6] [ptr b6, ptr b5] (fun A => LS p false m r s g b1 b5 b6 m1 [] (B0L g) A) (fun A q hq => LS.at0 p m r s g b1 b5 b6 m1 [] (B0L g) A q hq) (fun A q n hq h0 h1 => LS.set0 p m r s g b1 b5 b6 m1 [] (B0L g) A (B0L_bd hrg) q n hq h0 h1) (fun q => klamp (g.cell q).a (g.cell q).b) (fun q => klamp_bd _ _) (fun A q hq => LS.own0 p m r s g b1 b5 b6 m1 [] (B0L g) A false q hq) g.cell (fun q hq => (hrg q hq).1) (fun A q hq => LS.cell p m r s g b1 b5 b6 m1 [] (B0L g) A false q hq) A5 (fun q => ⟨(hA5 q).1, Int.le_trans (hA5 q).2 (A0L_bd hrg q).2⟩) v5 l5 hl5 hn5) (by repeat' constructor) rfl ?_
      rintro _ _ ⟨rfl, A6, hB6, rfl⟩
      refine XL.app1 ?_
      refine XL.on ?_
      refine XA.done (by kernel_rfl) ?_
      refine Jp.mt A6 ⟨hB6.a, fun hc => (hB6.k p hc).trans (hz5 p (by simp))⟩
    refine XO.cons (i := 1) rfl rfl ?_ ?_
    ·refine XL.lA ?_
     refine XL.on ?_
     refine XA.two (i := 0) (j := 3) rfl rfl (by kernel_rfl) rfl rfl ?_ ?_
     ·refine XL.lA ?_
      refine XL.on ?_
      refine XA.o 3 ?_
      refine XL.buildSlice (by rfl) (by rfl) (by rfl) (by decide) rfl (fun bp => ?_)
      refine XL.lit 1 (k := 3) (b := bp) (by repeat' constructor) rfl ?_
      refine XL.on ?_
      refine XA.o 4 ?_
      refine XL.cw rfl (c104 p m 100 101 102 [ptr b1] [ptr b6] [ptr b6, ptr b5] (fun A => LS p false m r s g b1 b5 b6 m1 [] (B0L g) A) (fun A q hq => LS.at0 p m r s g b1 b5 b6 m1 [] (B0L g) A q hq) (fun A q n hq h0 h1 => LS.set0 p m r s g b1 b5 b6 m1 [] (B0L g) A (B0L_bd hrg) q n hq h0 h1) (A0L g) (A0L_bd hrg) _ [p] (by simp) (fun q hq => by rw [show q = p by simpa using hq]; exact nbr0 hp)) (by repeat' constructor) rfl ?_
      rintro v5 _ ⟨l5, A5, hA5, hz5, hn5, hl5, rfl⟩
      refine XL.app2 ?_
      refine XL.on ?_
      refine XA.o 5 ?_
      refine XL.cw rfl (c103 p m 100 101 102 [ptr b1] [ptr b6] [ptr b6, ptr b5] (fun A => LS p false m r s g b1 b5 b6 m1 [] (B0L g) A) (fun A q hq => LS.at0 p m r s g b1 b5 b6 m1 [] (B0L g) A q hq) (fun A q n hq h0 h1 => LS.set0 p m r s g b1 b5 b6 m1 [] (B0L g) A (B0L_bd hrg) q n hq h0 h1) (fun q => klamp (g.cell q).a (g.cell q).b) (fun q => klamp_bd _ _) (fun A q hq => LS.own0 p m r s g b1 b5 b6 m1 [] (B0L g) A false q hq) g.cell (fun q hq => (hrg q hq).1) (fun A q hq => LS.cell p m r s g b1 b5 b6 m1 [] (B0L g) A false q hq) A5 (fun q => ⟨(hA5 q).1, Int.le_trans (hA5 q).2 (A0L_bd hrg q).2⟩) v5 l5 hl5 hn5) (by repeat' constructor) rfl ?_
      rintro _ _ ⟨rfl, A6, hB6, rfl⟩
      refine XL.app1 ?_
      refine XL.on ?_
      refine XA.done (by kernel_rfl) ?_
      refine Jp.mt A6 ⟨hB6.a, fun hc => (hB6.k p hc).trans (hz5 p (by simp))⟩
     ·refine XL.buildSlice (by rfl) (by rfl) (by rfl) (by decide) rfl (fun bp => ?_)
      refine XL.lit 1 (k := 3) (b := bp) (by repeat' constructor) rfl ?_
      refine XL.on ?_
      refine XA.two (i := 0) (j := 4) rfl rfl (by kernel_rfl) rfl rfl ?_ ?_
      ·refine XL.lA ?_
       refine XL.on ?_
       refine XA.o 4 ?_
       refine XL.cw rfl (c104 p m 100 101 102 [ptr b1] [ptr b6] [ptr b6, ptr b5] (fun A => LS p false m r s g b1 b5 b6 m1 [] (B0L g) A) (fun A q hq => LS.at0 p m r s g b1 b5 b6 m1 [] (B0L g) A q hq) (fun A q n hq h0 h1 => LS.set0 p m r s g b1 b5 b6 m1 [] (B0L g) A (B0L_bd hrg) q n hq h0 h1) (A0L g) (A0L_bd hrg) _ [p] (by simp) (fun q hq => by rw [show q = p by simpa using hq]; exact nbr0 hp)) (by repeat' constructor) rfl ?_
       rintro v5 _ ⟨l5, A5, hA5, hz5, hn5, hl5, rfl⟩
       refine XL.app2 ?_
       refine XL.on ?_
       refine XA.o 5 ?_
       refine XL.cw rfl (c103 p m 100 101 102 [ptr b1] [ptr b6] [ptr b6, ptr b5] (fun A => LS p false m r s g b1 b5 b6 m1 [] (B0L g) A) (fun A q hq => LS.at0 p m r s g b1 b5 b6 m1 [] (B0L g) A q hq) (fun A q n hq h0 h1 => LS.set0 p m r s g b1 b5 b6 m1 [] (B0L g) A (B0L_bd hrg) q n hq h0 h1) (fun q => klamp (g.cell q).a (g.cell q).b) (fun q => klamp_bd _ _) (fun A q hq => LS.own0 p m r s g b1 b5 b6 m1 [] (B0L g) A false q hq) g.cell (fun q hq => (hrg q hq).1) (fun A q hq => LS.cell p m r s g b1 b5 b6 m1 [] (B0L g) A false q hq) A5 (fun q => ⟨(hA5 q).1, Int.le_trans (hA5 q).2 (A0L_bd hrg q).2⟩) v5 l5 hl5 hn5) (by repeat' constructor) rfl ?_
       rintro _ _ ⟨rfl, A6, hB6, rfl⟩
       refine XL.app1 ?_
       refine XL.on ?_
       refine XA.done (by kernel_rfl) ?_
       refine Jp.mt A6 ⟨hB6.a, fun hc => (hB6.k p hc).trans (hz5 p (by simp))⟩
      ·refine XL.cw rfl (c104 p m 100 101 102 [ptr b1] [ptr b6] [ptr b6, ptr b5] (fun A => LS p false m r s g b1 b5 b6 m1 [] (B0L g) A) (fun A q hq => LS.at0 p m r s g b1 b5 b6 m1 [] (B0L g) A q hq) (fun A q n hq h0 h1 => LS.set0 p m r s g b1 b5 b6 m1 [] (B0L g) A (B0L_bd hrg) q n hq h0 h1) (A0L g) (A0L_bd hrg) _ [p] (by simp) (fun q hq => by rw [show q = p by simpa using hq]; exact nbr0 hp)) (by repeat' constructor) rfl ?_
       rintro v5 _ ⟨l5, A5, hA5, hz5, hn5, hl5, rfl⟩
       refine XL.app2 ?_
       refine XL.on ?_
       refine XA.o 0 ?_
       refine XL.lA ?_
       refine XL.on ?_
       refine XA.o 5 ?_
       refine XL.cw rfl (c103 p m 100 101 102 [ptr b1] [ptr b6] [ptr b6, ptr b5] (fun A => LS p false m r s g b1 b5 b6 m1 [] (B0L g) A) (fun A q hq => LS.at0 p m r s g b1 b5 b6 m1 [] (B0L g) A q hq) (fun A q n hq h0 h1 => LS.set0 p m r s g b1 b5 b6 m1 [] (B0L g) A (B0L_bd hrg) q n hq h0 h1) (fun q => klamp (g.cell q).a (g.cell q).b) (fun q => klamp_bd _ _) (fun A q hq => LS.own0 p m r s g b1 b5 b6 m1 [] (B0L g) A false q hq) g.cell (fun q hq => (hrg q hq).1) (fun A q hq => LS.cell p m r s g b1 b5 b6 m1 [] (B0L g) A false q hq) A5 (fun q => ⟨(hA5 q).1, Int.le_trans (hA5 q).2 (A0L_bd hrg q).2⟩) v5 l5 hl5 hn5) (by repeat' constructor) rfl ?_
       rintro _ _ ⟨rfl, A6, hB6, rfl⟩
       refine XL.app1 ?_
       refine XL.on ?_
       refine XA.done (by kernel_rfl) ?_
       refine Jp.mt A6 ⟨hB6.a, fun hc => (hB6.k p hc).trans (hz5 p (by simp))⟩
    refine XO.cons (i := 3) rfl rfl ?_ ?_
    ·refine XL.buildSlice (by rfl) (by rfl) (by rfl) (by decide) rfl (fun bp => ?_)
     refine XL.lit 1 (k := 3) (b := bp) (by repeat' constructor) rfl ?_
     refine XL.on ?_
     refine XA.two (i := 0) (j := 1) rfl rfl (by kernel_rfl) rfl rfl ?_ ?_
     ·refine XL.lA ?_
      refine XL.on ?_
      refine XA.o 1 ?_
      refine XL.lA ?_
      refine XL.on ?_
      refine XA.o 4 ?_
      refine XL.cw rfl (c104 p m 100 101 102 [ptr b1] [ptr b6] [ptr b6, ptr b5] (fun A => LS p false m r s g b1 b5 b6 m1 [] (B0L g) A) (fun A q hq => LS.at0 p m r s g b1 b5 b6 m1 [] (B0L g) A q hq) (fun A q n hq h0 h1 => LS.set0 p m r s g b1 b5 b6 m1 [] (B0L g) A (B0L_bd hrg) q n hq h0 h1) (A0L g) (A0L_bd hrg) _ [p] (by simp) (fun q hq => by rw [show q = p by simpa using hq]; exact nbr0 hp)) (by repeat' constructor) rfl ?_
      rintro v5 _ ⟨l5, A5, hA5, hz5, hn5, hl5, rfl⟩
      refine XL.app2 ?_
      refine XL.on ?_
      refine XA.o 5 ?_
      refine XL.cw rfl (c103 p m 100 101 102 [ptr b1] [ptr b6] [ptr b6, ptr b5] (fun A => LS p false m r s g b1 b5 b6 m1 [] (B0L g) A) (fun A q hq => LS.at0 p m r s g b1 b5 b6 m1 [] (B0L g) A q hq) (fun A q n hq h0 h1 => LS.set0 p m r s g b1 b5 b6 m1 [] (B0L g) A (B0L_bd hrg) q n hq h0 h1) (fun q => klamp (g.cell q).a (g.cell q).b) (fun q => klamp_bd _ _) (fun A q hq => LS.own0 p m r s g b1 b5 b6 m1 [] (B0L g) A false q hq) g.cell (fun q hq => (hrg q hq).1) (fun A q hq => LS.cell p m r s g b1 b5 b6 m1 [] (B0L g) A false q hq) A5 (fun q => ⟨(hA5 q).1, Int.le_trans (hA5 q).2 (A0L_bd hrg q).2⟩) v5 l5 hl5 hn5) (by repeat' constructor) rfl ?_
      rintro _ _ ⟨rfl, A6, hB6, rfl⟩
      refine XL.app1 ?_
      refine XL.on ?_
      refine XA.done (by kernel_rfl) ?_
      refine Jp.mt A6 ⟨hB6.a, fun hc => (hB6.k p hc).trans (hz5 p (by simp))⟩
     ·refine XL.lA ?_
      refine XL.on ?_
      refine XA.two (i := 0) (j := 4) rfl rfl (by kernel_rfl) rfl rfl ?_ ?_
      ·refine XL.lA ?_
       refine XL.on ?_
       refine XA.o 4 ?_
       refine XL.cw rfl (c104 p m 100 101 102 [ptr b1] [ptr b6] [ptr b6, ptr b5] (fun A => LS p false m r s g b1 b5 b6 m1 [] (B0L g) A) (fun A q hq => LS.at0 p m r s g b1 b5 b6 m1 [] (B0L g) A q hq) (fun A q n hq h0 h1 => LS.set0 p m r s g b1 b5 b6 m1 [] (B0L g) A (B0L_bd hrg) q n hq h0 h1) (A0L g) (A0L_bd hrg) _ [p] (by simp) (fun q hq => by rw [show q = p by simpa using hq]; exact nbr0 hp)) (by repeat' constructor) rfl ?_
       rintro v5 _ ⟨l5, A5, hA5, hz5, hn5, hl5, rfl⟩
       refine XL.app2 ?_
       refine XL.on ?_
       refine XA.o 5 ?_
       refine XL.cw rfl (c103 p m 100 101 102 [ptr b1] [ptr b6] [ptr b6, ptr b5] (fun A => LS p false m r s g b1 b5 b6 m1 [] (B0L g) A) (fun A q hq => LS.at0 p m r s g b1 b5 b6 m1 [] (B0L g) A q hq) (fun A q n hq h0 h1 => LS.set0 p m r s g b1 b5 b6 m1 [] (B0L g) A (B0L_bd hrg) q n hq h0 h1) (fun q => klamp (g.cell q).a (g.cell q).b) (fun q => klamp_bd _ _) (fun A q hq => LS.own0 p m r s g b1 b5 b6 m1 [] (B0L g) A false q hq) g.cell (fun q hq => (hrg q hq).1) (fun A q hq => LS.cell p m r s g b1 b5 b6 m1 [] (B0L g) A false q hq) A5 (fun q => ⟨(hA5 q).1, Int.le_trans (hA5 q).2 (A0L_bd hrg q).2⟩) v5 l5 hl5 hn5) (by repeat' constructor) rfl ?_
       rintro _ _ ⟨rfl, A6, hB6, rfl⟩
       refine XL.app1 ?_
       refine XL.on ?_
       refine XA.done (by kernel_rfl) ?_
       refine Jp.mt A6 ⟨hB6.a, fun hc => (hB6.k p hc).trans (hz5 p (by simp))⟩
      ·refine XL.cw rfl (c104 p m 100 101 102 [ptr b1] [ptr b6] [ptr b6, ptr b5] (fun A => LS p false m r s g b1 b5 b6 m1 [] (B0L g) A) (fun A q hq => LS.at0 p m r s g b1 b5 b6 m1 [] (B0L g) A q hq) (fun A q n hq h0 h1 => LS.set0 p m r s g b1 b5 b6 m1 [] (B0L g) A (B0L_bd hrg) q n hq h0 h1) (A0L g) (A0L_bd hrg) _ [p] (by simp) (fun q hq => by rw [show q = p by simpa using hq]; exact nbr0 hp)) (by repeat' constructor) rfl ?_
       rintro v5 _ ⟨l5, A5, hA5, hz5, hn5, hl5, rfl⟩
       refine XL.app2 ?_
       refine XL.on ?_
       refine XA.o 0 ?_
       refine XL.lA ?_
       refine XL.on ?_
       refine XA.o 5 ?_
       refine XL.cw rfl (c103 p m 100 101 102 [ptr b1] [ptr b6] [ptr b6, ptr b5] (fun A => LS p false m r s g b1 b5 b6 m1 [] (B0L g) A) (fun A q hq => LS.at0 p m r s g b1 b5 b6 m1 [] (B0L g) A q hq) (fun A q n hq h0 h1 => LS.set0 p m r s g b1 b5 b6 m1 [] (B0L g) A (B0L_bd hrg) q n hq h0 h1) (fun q => klamp (g.cell q).a (g.cell q).b) (fun q => klamp_bd _ _) (fun A q hq => LS.own0 p m r s g b1 b5 b6 m1 [] (B0L g) A false q hq) g.cell (fun q hq => (hrg q hq).1) (fun A q hq => LS.cell p m r s g b1 b5 b6 m1 [] (B0L g) A false q hq) A5 (fun q => ⟨(hA5 q).1, Int.le_trans (hA5 q).2 (A0L_bd hrg q).2⟩) v5 l5 hl5 hn5) (by repeat' constructor) rfl ?_
       rintro _ _ ⟨rfl, A6, hB6, rfl⟩
       refine XL.app1 ?_
       refine XL.on ?_
       refine XA.done (by kernel_rfl) ?_
       refine Jp.mt A6 ⟨hB6.a, fun hc => (hB6.k p hc).trans (hz5 p (by simp))⟩
    exact XO.nil
   exact XO.nil
  ·rintro A6 ⟨hA6, hp6⟩
   refine SP.openEx (by repeat' constructor) ?_
   rintro l6 hl6
   refine SP.gam (Γ' := [pt b5 (cel [.map (some m1)] 170), pt b1 (cel [.iface 24 (mp m)] 82), pt b6 (cel [.func (.func 99) #[] #[ptr b5, ptr b1]] 127), MpR Pl.v C2.v m1 l6, Mb m r s, FieldR r g, pt b2 (cel [.int .i64 p.x, .int .i64 p.y, .int .i64 p.z] 49)]) (fun h s => s) ?_
   refine SP.share1 (X := List (Pl × C2)) (fun w => [(3, .pointer (some ⟨b1, 0, none⟩)), (10, .pointer (some ⟨b5, 0, none⟩))]) (fun w => [pt b5 (cel [.map (some m1)] 170), pt b1 (cel [.iface 24 (mp m)] 82), MpR Pl.v C2.v m1 w, Mb m r s, FieldR r g]) (fun w => LtOk p w ∧ (clrC old → ¬ clrC (g.cell p) → litL g w p = ⟨0, 0⟩)) ?_ (fun hsh27 => ?_)
   ·rintro l9 ⟨hok, hz9⟩
    have hln := hok.len
    refine SP.r2 ?_
    refine XL.a ?_
    refine XL.n5 ?_
    refine SP.r2 ?_
    refine XL.l ?_
    refine XL.range (ek := Pl.v) (ev' := C2.v) (l := l9) rfl (by repeat' constructor) rfl (fun bi => ?_)
    refine XL.n2 ?_
    refine SP.block ?_
    refine SP.gam (star_nilS (E := 49) (k := 3)) ?_
    refine SP.loop (X := (Value × List Pl) × List (Pl × C2)) (fun w => [(115, .pointer (some ⟨bi, 0, none⟩)), (20, w.1.1), (3, .pointer (some ⟨b1, 0, none⟩)), (10, .pointer (some ⟨b5, 0, none⟩))]) (fun w => [MpIt Pl.v C2.v bi m1 l9 w.2 none, PlS (w.1.1) (w.1.2), pt b5 (cel [.map (some m1)] 170), pt b1 (cel [.iface 24 (mp m)] 82), Mb m r s, FieldR r g]) (fun w => (∀ q ∈ w.1.2, ∃ x, getM l9 q = some x) ∧ (∀ e ∈ w.2, e ∈ l9) ∧ w.1.2.length + w.2.length ≤ l9.length ∧ ∀ x, getM l9 p = some x → x ≠ g.light p → p ∈ w.1.2 ∨ (p, x) ∈ w.2) (fun w => w.2.length) ((.slice none 0 0, []), l9) ⟨fun q hq => absurd hq (by simp), fun e he => he, by simp, fun x hx _ => .inr (mem_getM hx)⟩ (by repeat' constructor) (Pk.drop (by repeat' constructor)) ?_
    rintro ⟨⟨v, out⟩, left⟩ ⟨hout, hlm, hol, hcp⟩
    dsimp only at *
    refine SP.r2 ?_
    refine XL.next (ek := Pl.v) (ev' := C2.v) (l := l9) (left := left) rfl (by repeat' constructor) rfl (fun hlf => ?_) (fun la k x lc hlf => ?_)
    ·refine XL.x ?_
     refine XL.n5 ?_
     refine SP.f ?_
     refine SP.exit ?_
     refine Jp.then_exit ?_
     refine Jp.then_exit ?_
     refine Jp.block_here ?_
     refine Jp.n4 ?_
     obtain rfl : left = [] := hlf
     refine XL.weaken (fun h s => star_head (B := MpR Pl.v C2.v m1 l9) MpIt.done s) ?_
     refine XL.m ?_
     refine XL.cw rfl (c109 v out (by simp at hol; omega)) (by repeat' constructor) rfl ?_
     rintro _ _ ⟨rfl, o2, ho2, rfl⟩
     refine XL.app1 ?_
     refine XL.n4 ?_
     refine XL.l ?_
     refine XL.cw rfl (c110 m1 l9) (by repeat' constructor) rfl ?_
     rintro _ _ ⟨r2, rfl, rfl⟩
     refine XL.app2 ?_
     refine XL.a ?_
     refine XL.n5 ?_
     refine SP.r2 ?_
     refine XL.m ?_
     refine XL.lenS (E' := 49) (xs := o2.flatMap Pl.cs) (m := o2.length) rfl (by repeat' constructor) rfl ?_
     refine XL.m ?_
     refine XL.n2 ?_
     refine SP.block ?_
     have ho2l := ho2.length_eq
     have houtl : out.length ≤ 238144 := by simp at hol; omega
     refine SP.loop (X := Nat × Fld) (fun w => [(136, .int .i64 (w.1 : Int)), (135, .int .i64 (o2.length : Int)), (134, v), (20, v), (23, .map (some r2)), (3, .pointer (some ⟨b1, 0, none⟩))]) (fun w => [PlS v o2, MpR Pl.v C2.v r2 l9, pt b1 (cel [.iface 24 (mp m)] 82), Mb m r s, FieldR r w.2]) (fun w => w.1 ≤ o2.length ∧ w.2.cell = g.cell ∧ w.2.due = g.due ∧ w.2.D = g.D ∧ w.2.light p = if p ∈ o2.take w.1 then (getM l9 p).getD ⟨0, 0⟩ else g.light p) (fun w => o2.length - w.1) (0, g) ⟨Nat.zero_le _, rfl, rfl, rfl, by simp⟩ (by repeat' constructor) (Pk.drop (by repeat' constructor)) ?_
     rintro ⟨i, g1⟩ ⟨hi, hc1, hd1, hD1, hL1⟩
     dsimp only at *
     refine SP.r2 ?_
     refine XL.lss_s rfl rfl rfl (fun hc => ?_) (fun hc => ?_)
     ·obtain ⟨t, hgt⟩ : ∃ t, o2[i]? = some t := ⟨_, List.getElem?_eq_getElem (show i < o2.length by omega)⟩
      obtain ⟨x, hx⟩ := hout t (ho2.mem_iff.1 (List.mem_of_getElem? hgt))
      have hxn := hok.get hx
      refine XL.know (Rm.know (A := PlS _ o2) (by repeat' constructor) (fun _ hq => Sl'.ptr hq (by omega))) ?_
      rintro ⟨bo2, co2, rfl, _⟩
      refine XL.n5 ?_
      refine SP.t ?_
      refine SP.skip ?_
      refine Jp.then_normal ?_
      refine SP.seq ?_
      refine SP.block ?_
      refine SP.r2 ?_
      refine XL.indexSl (r := i * 3) rfl rfl (by omega) (by omega) (by simp) rfl ?_
      refine XL.loadA (hs := SbL.flat Pl.len hgt rfl) rfl rfl ?_
      refine XL.alloc (by rfl) (fun b8 => ?_)
      refine XL.sA ?_
      refine XL.n2 ?_
      refine SP.tail 8 Tryz.fol (by kernel_rfl) ?_
      refine XL.l ?_
      refine XL.lA ?_
      refine XL.m ?_
      refine XL.lA ?_
      refine XL.lookup (z := .agg #[.int .u8 0, .int .u8 0]) (k := t) (ek := Pl.v) (ev' := C2.v) (l := l9) rfl rfl (by repeat' constructor) (zeroOf (by kernel_rfl)) rfl ?_
      rw [hx]
      refine XL.makeFunc (l1 := [.tmp 140]) (l2 := []) rfl rfl rfl ?_
      refine XL.nilCheckM (l2 := []) rfl rfl ?_
      refine XL.m ?_
      refine XL.nilq_tail ?_
      refine XL.iw rfl rfl (F_Lit m r s g1 t hxn.1.1 x ⟨hxn.2.1, by omega, hxn.2.2.2.1, by omega⟩) (by repeat' constructor) rfl ?_
      rintro _ _ ⟨rfl, rfl⟩
      refine XL.app2 ?_
      refine XL.nil ?_
      refine Jp.block_normal ?_
      refine Jp.then_normal ?_
      refine SP.region ?_
      refine XL.add_i64 rfl rfl (by omega) (by omega) rfl ?_
      refine XL.m ?_
      refine XL.nil ?_
      refine Jp.rd (i + 1, g1.lit t x) ⟨by show i + 1 ≤ o2.length; omega, hc1, hd1, hD1, take_lit hgt hx hL1⟩ (by show o2.length - (i + 1) < o2.length - i; omega)
     ·refine XL.n5 ?_
      refine SP.f ?_
      refine SP.exit ?_
      refine Jp.then_exit ?_
      refine Jp.then_exit ?_
      refine Jp.block_here ?_
      refine Jp.n4 ?_
      refine XL.m ?_
      refine XL.lenS (E' := 49) (xs := o2.flatMap Pl.cs) (m := o2.length) rfl (by repeat' constructor) rfl ?_
      refine XL.a ?_
      refine XL.n2 ?_
      refine SP.ret ?_
      obtain rfl : i = o2.length := by omega
      exact Jp.go (Pk.drop (Γ1 := [Mb m r s, FieldR r g1]) (by repeat' constructor)) (Jp.end1 (.inr rfl) rfl rfl ⟨_, g1, rfl, hc1, hd1, hD1, fun h1 h2 => by rw [hL1, List.take_length]; exact lit_zero (hz9 h1 h2) hout (fun x hx hne => (hcp x hx hne).elim id (fun h => absurd h (by simp))) ho2, rfl⟩)
    ·have hkx : (k, x) ∈ l9 := hlm _ (by rw [hlf]; simp)
     have hkn := hok.all _ hkx
     refine XL.x ?_
     refine XL.n5 ?_
     refine SP.t ?_
     refine SP.skip ?_
     refine Jp.then_normal ?_
     refine SP.block ?_
     refine SP.r2 ?_
     refine XL.entry (k := k) (v := x) (ek := Pl.v) (ev' := C2.v) rfl (by repeat' constructor) rfl ?_
     refine XL.x ?_
     refine XL.x ?_
     refine XL.alloc (by rfl) (fun b9 => ?_)
     refine XL.alloc (by rfl) (fun b10 => ?_)
     refine XL.sA ?_
     refine XL.sA ?_
     refine XL.n5 ?_
     refine SP.quiet Tryz.fol (by kernel_rfl) ?_
     refine XL.lA ?_
     refine XL.l ?_
     refine XL.lA ?_
     refine XL.ir (r := (g.light k).v) rfl rfl (F_Light m r s g k hkn.1.1) (by repeat' constructor) rfl ?_
     refine XL.neqT x (g.light k) (by rfl) (by rfl) rfl (fun hne => ?_) (fun heq => ?_)
     ·refine XL.nilq_end ?_
      refine Jp.then_normal ?_
      refine SP.t ?_
      refine SP.region ?_
      refine XL.m ?_
      refine XL.lA ?_
      refine XL.buildSlice (by rfl) (by rfl) (by rfl) (by decide) rfl (fun bo => ?_)
      refine XL.append (k := 3) (z := [.int .i64 0, .int .i64 0, .int .i64 0]) (bt := 24) (xs := out.flatMap Pl.cs) (ys := Pl.cs k) (m := out.length) (m2 := 1) rfl rfl ⟨_, Tryz.underlying61⟩ (by repeat' constructor) rfl rfl rfl (by omega) rfl rfl (fun v2 => ?_)
      rw [PlS_snoc v2 out k]
      refine XL.a ?_
      refine XL.nil ?_
      refine Jp.block_normal ?_
      refine Jp.gam (Rm.conv (A := MpIt Pl.v C2.v bi m1 l9 (la ++ lc) (some (k, x))) (by repeat' constructor) MpIt.cur) ?_
      refine Jp.round ((v2, out ++ [k]), la ++ lc) ⟨fun q hq => (List.mem_append.1 hq).elim (hout q) (fun e => by rw [show q = k by simpa using e]; exact ⟨x, getM_mem hok.nd hkx⟩), fun e he => hlm e (by rw [hlf]; rcases List.mem_append.1 he with h | h <;> simp [h]), by simp only [hlf, List.length_append, List.length_cons, List.length_nil] at *; omega, fun y hy hne2 => ?_⟩ (by show (la ++ lc).length < left.length; rw [hlf]; simp) (by repeat' constructor) (Pk.drop (Γ := _) (by repeat' constructor))
      rcases hcp y hy hne2 with h | h
      ·exact .inl (List.mem_append_left _ h)
      ·rw [hlf] at h
       rcases List.mem_append.1 h with h | h
       ·exact .inr (List.mem_append_left _ h)
       ·rcases List.mem_cons.1 h with e | h
        ·cases e; exact .inl (by simp)
        ·exact .inr (List.mem_append_right _ h)
     ·refine XL.nilq_end ?_
      refine Jp.then_normal ?_
      refine SP.f ?_
      refine SP.skip ?_
      refine Jp.block_normal ?_
      refine Jp.gam (Rm.conv (A := MpIt Pl.v C2.v bi m1 l9 (la ++ lc) (some (k, x))) (by repeat' constructor) MpIt.cur) ?_
      refine Jp.rd ((v, out), la ++ lc) ⟨hout, fun e he => hlm e (by rw [hlf]; rcases List.mem_append.1 he with h | h <;> simp [h]), by simp only [hlf, List.length_append, List.length_cons, List.length_nil] at *; omega, fun y hy hne2 => ?_⟩ (by show (la ++ lc).length < left.length; rw [hlf]; simp)
      rcases hcp y hy hne2 with h | h
      ·exact .inl h
      ·rw [hlf] at h
       rcases List.mem_append.1 h with h | h
       ·exact .inr (List.mem_append_left _ h)
       ·rcases List.mem_cons.1 h with e | h
        ·cases e; exact absurd heq hne2
        ·exact .inr (List.mem_append_right _ h)
   ·refine SP.cut (X := List (Pl × C2)) (fun w => [(3, .pointer (some ⟨b1, 0, none⟩)), (10, .pointer (some ⟨b5, 0, none⟩))]) (fun w => [pt b5 (cel [.map (some m1)] 170), pt b1 (cel [.iface 24 (mp m)] 82), MpR Pl.v C2.v m1 w, Mb m r s, FieldR r g]) (fun w => LtOk p w ∧ (clrC old → ¬ clrC (g.cell p) → litL g w p = ⟨0, 0⟩)) ?_ hsh27
    refine SP.r2 ?_
    rcases was with _ | _
    ·refine XL.m ?_
     rcases is with _ | _
     ·refine XL.m ?_
      refine XL.boolneq rfl rfl Tryz.underlying4 rfl ?_
      refine XL.n2 ?_
      refine SP.f ?_
      refine SP.skip ?_
      refine Jp.mt l6 ⟨hl6.ok, fun h1 _ => absurd (hwas.2 h1) (by decide)⟩
     ·refine XL.m ?_
      refine XL.boolneq rfl rfl Tryz.underlying4 rfl ?_
      refine XL.n2 ?_
      refine SP.t ?_
      refine SP.r2 ?_
      refine XL.makeMap (ek := Pl.v) (ev' := i64v) rfl (fun m2 => ?_)
      refine XL.alloc (by rfl) (fun b8 => ?_)
      refine XL.store (by rfl) (by rfl) (by rfl) ?_
      refine XL.n4 ?_
      refine XL.l ?_
      refine XL.makeFunc (l1 := []) (l2 := [.tmp 13]) rfl rfl rfl ?_
      refine XL.makeFunc (l1 := []) (l2 := [.tmp 11]) rfl rfl rfl ?_
      refine XL.makeFunc (l1 := []) (l2 := [.tmp 11, .tmp 10]) rfl rfl rfl ?_
      refine XL.build (by rfl) (by rfl) ?_
      refine XL.alloc (by rfl) (fun b9 => ?_)
      refine XL.sA ?_
      refine XL.n4 ?_
      refine XL.lA ?_
      refine XL.buildSlice (by rfl) (by rfl) (by rfl) (by decide) rfl (fun bq => ?_)
      refine XL.lit 1 (k := 3) (b := bq) (by repeat' constructor) rfl ?_
      refine XL.a ?_
      refine XL.n2 ?_
      refine SP.share2 (X := (Value × List Pl) × List (Pl × Int)) (fun w => [(15, w.1.1), (9, .bool true), (14, .pointer (some ⟨b9, 0, none⟩)), (3, .pointer (some ⟨b1, 0, none⟩)), (4, .pointer (some ⟨b2, 0, none⟩)), (10, .pointer (some ⟨b5, 0, none⟩))]) (fun w => [pt b5 (cel [.map (some m1)] 170), pt b1 (cel [.iface 24 (mp m)] 82), pt b6 (cel [.func (.func 99) #[] #[ptr b5, ptr b1]] 127), MpR Pl.v C2.v m1 l6, Mb m r s, FieldR r g, pt b2 (cel [.int .i64 p.x, .int .i64 p.y, .int .i64 p.z] 49), pt b9 (cel (wvC m 105 106 107 [ptr b8] [ptr b6] [ptr b6, ptr b5]) 175), pt b8 (cel [.map (some m2)] 178), MpR Pl.v i64v m2 w.2, PlS (w.1.1) (w.1.2)]) (fun w => w.1.2.length ≤ 64 ∧ p ∈ w.1.2 ∧ ∀ x ∈ w.1.2, Nbr p 0 x) ?_ (fun hsh24 => ?_)
      ·rintro ⟨⟨v7, l7⟩, ls⟩ ⟨hl7, hp7, hx7⟩
       dsimp only at *
       refine SP.r2 ?_
       refine XL.closeEx (c := LSc p true g A6 (B0L g)) (E := LSE m r s g b1 b5 b6 m1 [pt b8 (cel [.map (some m2)] 178), MpR Pl.v i64v m2 ls]) (x := l6) hl6.flip (by repeat' constructor) ?_
       refine XL.m ?_
       refine XL.n2 ?_
       refine SP.t ?_
       refine SP.region ?_
       refine XL.lA ?_
       refine XL.m ?_
       refine XL.cw rfl (c103 p m 105 106 107 [ptr b8] [ptr b6] [ptr b6, ptr b5] (fun A => LS p true m r s g b1 b5 b6 m1 [pt b8 (cel [.map (some m2)] 178), MpR Pl.v i64v m2 ls] A6 A) (fun A q hq => LS.at1 p m r s g b1 b5 b6 m1 _ A6 A q hq) (fun A q n hq h0 h1 => LS.set1 p m r s g b1 b5 b6 m1 _ A6 A hA6 q n hq h0 h1) (fun q => if 0 < cntL ls q then 15 else 0) (fun q => own15 ls q) (fun A q hq => LS.own1 p m r s g b1 b5 b6 m1 A6 A true b8 m2 ls q) g.cell (fun q hq => (hrg q hq).1) (fun A q hq => LS.cell p m r s g b1 b5 b6 m1 _ A6 A true q hq) (B0L g) (B0L_bd hrg) v7 l7 (by omega) (fun q hq => (hx7 q hq).mono (by decide))) (by repeat' constructor) rfl ?_
       rintro _ _ ⟨rfl, A8, hB8, rfl⟩
       refine XL.app1 ?_
       refine XL.nil ?_
       refine Jp.openEx (by repeat' constructor) ?_
       rintro l9 hl9
       refine Jp.gam (fun h st' => star_app_left (Γ := [pt b5 (cel [.map (some m1)] 170), pt b1 (cel [.iface 24 (mp m)] 82), pt b6 (cel [.func (.func 99) #[] #[ptr b5, ptr b1]] 127), MpR Pl.v C2.v m1 l9, Mb m r s, FieldR r g]) h st') ?_
       refine Jp.mt l9 ⟨hl9.ok, fun _ h2 => absurd (his.1 rfl) h2⟩
      ·refine SP.r2 ?_
       refine XL.lA ?_
       by_cases hup : MayQ (stp p 4)
       ·refine XL.cp rfl (c_Step_t p.x p.y p.z 4 (by omega) (by omega) hp hup) rfl ?_
        refine XL.m ?_
        refine XL.x ?_
        refine XL.x ?_
        refine XL.alloc (by rfl) (fun b11 => ?_)
        refine XL.sA ?_
        refine XL.a ?_
        refine XL.n2 ?_
        refine SP.cut (X := (Value × List Pl) × List (Pl × Int)) (fun w => [(15, w.1.1), (9, .bool true), (14, .pointer (some ⟨b9, 0, none⟩)), (3, .pointer (some ⟨b1, 0, none⟩)), (4, .pointer (some ⟨b2, 0, none⟩)), (10, .pointer (some ⟨b5, 0, none⟩))]) (fun w => [pt b5 (cel [.map (some m1)] 170), pt b1 (cel [.iface 24 (mp m)] 82), pt b6 (cel [.func (.func 99) #[] #[ptr b5, ptr b1]] 127), MpR Pl.v C2.v m1 l6, Mb m r s, FieldR r g, pt b2 (cel [.int .i64 p.x, .int .i64 p.y, .int .i64 p.z] 49), pt b9 (cel (wvC m 105 106 107 [ptr b8] [ptr b6] [ptr b6, ptr b5]) 175), pt b8 (cel [.map (some m2)] 178), MpR Pl.v i64v m2 w.2, PlS (w.1.1) (w.1.2)]) (fun w => w.1.2.length ≤ 64 ∧ p ∈ w.1.2 ∧ ∀ x ∈ w.1.2, Nbr p 0 x) ?_ hsh24
        refine SP.r2 ?_
        refine XL.m ?_
        refine XL.not_t rfl rfl ?_
        refine XL.m ?_
        refine XL.g ?_
        refine XL.l ?_
        refine XL.g ?_
        refine XL.lA ?_
        refine XL.g ?_
        refine XL.vr (v1 := []) (v2 := [ptr b5, ptr b1]) rfl rfl (c99 m r s g b5 b1 m1 l6 (stp p 4) hup) (by repeat' constructor) rfl ?_
        refine XL.g ?_
        refine XL.field (by rfl) (by rfl) ?_
        refine XL.g ?_
        refine XL.eql_s rfl rfl rfl (fun h15 => ?_) (fun h15 => ?_)
        ·refine XL.pick_f rfl rfl rfl ?_
         refine XL.n2 ?_
         refine SP.t ?_
         refine SP.r2 ?_
         refine XL.l ?_
         refine XL.lA ?_
         refine XL.cw rfl (c108 m r s g p hp) (by repeat' constructor) rfl ?_
         rintro v7 _ ⟨l7, hl7, hp7, hx7, rfl⟩
         refine XL.app3 ?_
         refine XL.know (Rm.know (Rm.here _ _) (fun _ hq => Sl'.len hq)) ?_
         rintro ⟨a7, c7, rfl, _⟩
         refine XL.a ?_
         refine XL.n4 ?_
         refine XL.m ?_
         refine XL.len (by rfl) (by rfl) ?_
         refine XL.m ?_
         refine XL.n2 ?_
         refine SP.block ?_
         refine SP.loop (X := Nat × List (Pl × Int)) (fun w => [(93, .int .i64 (w.1 : Int)), (92, .int .i64 (l7.length : Int)), (91, .slice a7 l7.length c7), (15, .slice a7 l7.length c7), (9, .bool true), (13, .pointer (some ⟨b8, 0, none⟩)), (14, .pointer (some ⟨b9, 0, none⟩)), (3, .pointer (some ⟨b1, 0, none⟩)), (4, .pointer (some ⟨b2, 0, none⟩)), (10, .pointer (some ⟨b5, 0, none⟩))]) (fun w => [pt b5 (cel [.map (some m1)] 170), pt b1 (cel [.iface 24 (mp m)] 82), pt b6 (cel [.func (.func 99) #[] #[ptr b5, ptr b1]] 127), MpR Pl.v C2.v m1 l6, Mb m r s, FieldR r g, pt b2 (cel [.int .i64 p.x, .int .i64 p.y, .int .i64 p.z] 49), pt b9 (cel (wvC m 105 106 107 [ptr b8] [ptr b6] [ptr b6, ptr b5]) 175), pt b8 (cel [.map (some m2)] 178), MpR Pl.v i64v m2 w.2, PlS (.slice a7 l7.length c7) (l7)]) (fun w => w.1 ≤ l7.length ∧ ∀ q, 0 ≤ cntL w.2 q ∧ cntL w.2 q ≤ w.1) (fun w => l7.length - w.1) (0, []) ⟨Nat.zero_le _, fun q => ⟨show (0 : Int) ≤ 0 by decide, show (0 : Int) ≤ 0 by decide⟩⟩ (by repeat' constructor) (Pk.drop (by repeat' constructor)) ?_
         rintro ⟨i, ls⟩ ⟨hi, hcn⟩
         dsimp only at *
         refine SP.r2 ?_
         refine XL.lss_s rfl rfl rfl (fun hc => ?_) (fun hc => ?_)
         ·obtain ⟨t, hgt⟩ : ∃ t, l7[i]? = some t := ⟨_, List.getElem?_eq_getElem (show i < l7.length by omega)⟩
          refine XL.know (Rm.know (A := PlS _ l7) (by repeat' constructor) (fun _ hq => Sl'.ptr hq (by omega))) ?_
          rintro ⟨bl, cl', el, _⟩
          obtain rfl : a7 = some ⟨bl, 0, none⟩ := by injection el
          have hct := hcn t
          refine XL.n5 ?_
          refine SP.t ?_
          refine SP.skip ?_
          refine Jp.then_normal ?_
          refine SP.seq ?_
          refine SP.block ?_
          refine SP.r2 ?_
          refine XL.indexSl (r := i * 3) rfl rfl (by omega) (by omega) (by simp) rfl ?_
          refine XL.loadA (hs := SbL.flat Pl.len hgt rfl) rfl rfl ?_
          refine XL.alloc (by rfl) (fun b12 => ?_)
          refine XL.sA ?_
          refine XL.n4 ?_
          refine XL.m ?_
          refine XL.n2 ?_
          refine SP.t ?_
          refine SP.any (m := 7) Tryz.fol rfl ?_
          refine XA.two (i := 0) (j := 1) rfl rfl (by kernel_rfl) rfl rfl ?_ ?_
          ·refine XL.l ?_
           refine XL.on ?_
           refine XA.o 1 ?_
           refine XL.lA ?_
           refine XL.on ?_
           refine XA.two (i := 2) (j := 4) rfl rfl (by kernel_rfl) rfl rfl ?_ ?_
           ·refine XL.lookup (z := .int .i64 0) (k := t) (ek := Pl.v) (ev' := i64v) (l := ls) rfl rfl (by repeat' constructor) (zeroOf (by kernel_rfl)) rfl ?_
            rw [cntL_v]
            refine XL.on ?_
            refine XA.tk (i := 3) rfl rfl rfl (fun _ _ _ => XL.add_i64 rfl rfl (by omega) (by omega) rfl) ?_
            refine XA.o 4 ?_
            refine XL.mapEntry (k := t) (z := 0) (ek := Pl.v) (ev' := i64v) (l := ls) rfl rfl (zeroOf (by kernel_rfl)) (by repeat' constructor) rfl (fun ve se => ?_)
            refine XL.on ?_
            refine XA.tk (i := 5) rfl rfl rfl (fun _ _ _ => XL.extract rfl rfl rfl) ?_
            refine XA.o 6 ?_
            refine XL.entryStore (k := t) (z := 0) (v := cntL ls t + 1) (ek := Pl.v) (ev' := i64v) (l := ls) rfl rfl rfl (by repeat' constructor) ?_
            refine XL.on ?_
            refine XA.done (by kernel_rfl) ?_
            refine Jp.block_normal ?_
            refine Jp.then_normal ?_
            refine SP.region ?_
            refine XL.add_i64 rfl rfl (by omega) (by omega) rfl ?_
            refine XL.m ?_
            refine XL.nil ?_
            refine Jp.rd (i + 1, setM ls t (cntL ls t + 1)) ⟨by show i + 1 ≤ l7.length; omega, cnt_step hcn⟩ (by show l7.length - (i + 1) < l7.length - i; omega)
           ·refine XL.mapEntry (k := t) (z := 0) (ek := Pl.v) (ev' := i64v) (l := ls) rfl rfl (zeroOf (by kernel_rfl)) (by repeat' constructor) rfl (fun ve se => ?_)
            refine XL.on ?_
            refine XA.tk (i := 5) rfl rfl rfl (fun _ _ _ => XL.extract rfl rfl rfl) ?_
            refine XA.o 2 ?_
            refine XL.lookupE (k := t) (z := 0) (ek := Pl.v) (ev' := i64v) (l := ls) rfl rfl (by repeat' constructor) (zeroOf (by kernel_rfl)) rfl ?_
            rw [show i64v ((getM ls t).getD 0) = .int .i64 (cntL ls t) from rfl]
            refine XL.on ?_
            refine XA.tk (i := 3) rfl rfl rfl (fun _ _ _ => XL.add_i64 rfl rfl (by omega) (by omega) rfl) ?_
            refine XA.o 6 ?_
            refine XL.entryStore (k := t) (z := 0) (v := cntL ls t + 1) (ek := Pl.v) (ev' := i64v) (l := ls) rfl rfl rfl (by repeat' constructor) ?_
            refine XL.on ?_
            refine XA.done (by kernel_rfl) ?_
            refine Jp.block_normal ?_
            refine Jp.then_normal ?_
            refine SP.region ?_
            refine XL.add_i64 rfl rfl (by omega) (by omega) rfl ?_
            refine XL.m ?_
            refine XL.nil ?_
            refine Jp.rd (i + 1, setM ls t (cntL ls t + 1)) ⟨by show i + 1 ≤ l7.length; omega, cnt_step hcn⟩ (by show l7.length - (i + 1) < l7.length - i; omega)
          ·refine XL.lA ?_
           refine XL.on ?_
           refine XA.o 0 ?_
           refine XL.l ?_
           refine XL.on ?_
           refine XA.two (i := 2) (j := 4) rfl rfl (by kernel_rfl) rfl rfl ?_ ?_
           ·refine XL.lookup (z := .int .i64 0) (k := t) (ek := Pl.v) (ev' := i64v) (l := ls) rfl rfl (by repeat' constructor) (zeroOf (by kernel_rfl)) rfl ?_
            rw [cntL_v]
            refine XL.on ?_
            refine XA.tk (i := 3) rfl rfl rfl (fun _ _ _ => XL.add_i64 rfl rfl (by omega) (by omega) rfl) ?_
            refine XA.o 4 ?_
            refine XL.mapEntry (k := t) (z := 0) (ek := Pl.v) (ev' := i64v) (l := ls) rfl rfl (zeroOf (by kernel_rfl)) (by repeat' constructor) rfl (fun ve se => ?_)
            refine XL.on ?_
            refine XA.tk (i := 5) rfl rfl rfl (fun _ _ _ => XL.extract rfl rfl rfl) ?_
            refine XA.o 6 ?_
            refine XL.entryStore (k := t) (z := 0) (v := cntL ls t + 1) (ek := Pl.v) (ev' := i64v) (l := ls) rfl rfl rfl (by repeat' constructor) ?_
            refine XL.on ?_
            refine XA.done (by kernel_rfl) ?_
            refine Jp.block_normal ?_
            refine Jp.then_normal ?_
            refine SP.region ?_
            refine XL.add_i64 rfl rfl (by omega) (by omega) rfl ?_
            refine XL.m ?_
            refine XL.nil ?_
            refine Jp.rd (i + 1, setM ls t (cntL ls t + 1)) ⟨by show i + 1 ≤ l7.length; omega, cnt_step hcn⟩ (by show l7.length - (i + 1) < l7.length - i; omega)
           ·refine XL.mapEntry (k := t) (z := 0) (ek := Pl.v) (ev' := i64v) (l := ls) rfl rfl (zeroOf (by kernel_rfl)) (by repeat' constructor) rfl (fun ve se => ?_)
            refine XL.on ?_
            refine XA.tk (i := 5) rfl rfl rfl (fun _ _ _ => XL.extract rfl rfl rfl) ?_
            refine XA.o 2 ?_
            refine XL.lookupE (k := t) (z := 0) (ek := Pl.v) (ev' := i64v) (l := ls) rfl rfl (by repeat' constructor) (zeroOf (by kernel_rfl)) rfl ?_
            rw [show i64v ((getM ls t).getD 0) = .int .i64 (cntL ls t) from rfl]
            refine XL.on ?_
            refine XA.tk (i := 3) rfl rfl rfl (fun _ _ _ => XL.add_i64 rfl rfl (by omega) (by omega) rfl) ?_
            refine XA.o 6 ?_
            refine XL.entryStore (k := t) (z := 0) (v := cntL ls t + 1) (ek := Pl.v) (ev' := i64v) (l := ls) rfl rfl rfl (by repeat' constructor) ?_
            refine XL.on ?_
            refine XA.done (by kernel_rfl) ?_
            refine Jp.block_normal ?_
            refine Jp.then_normal ?_
            refine SP.region ?_
            refine XL.add_i64 rfl rfl (by omega) (by omega) rfl ?_
            refine XL.m ?_
            refine XL.nil ?_
            refine Jp.rd (i + 1, setM ls t (cntL ls t + 1)) ⟨by show i + 1 ≤ l7.length; omega, cnt_step hcn⟩ (by show l7.length - (i + 1) < l7.length - i; omega)
         ·refine XL.n5 ?_
          refine SP.f ?_
          refine SP.exit ?_
          refine Jp.then_exit ?_
          refine Jp.then_exit ?_
          refine Jp.block_here ?_
          refine Jp.mt ((.slice a7 l7.length c7, l7), ls) ⟨hl7, hp7, hx7⟩
        ·refine XL.pick_f rfl rfl rfl ?_
         refine XL.n2 ?_
         refine SP.f ?_
         refine SP.skip ?_
         refine Jp.mt ((.slice (some ⟨bq, 0, none⟩) 1 1, [p]), []) ⟨by show ([p] : List Pl).length ≤ 64; simp, by show p ∈ [p]; simp, fun x hx => by rw [show x = p by simpa using hx]; exact nbr0 hp⟩
       ·refine XL.cp rfl (c_Step_f p.x p.y p.z 4 (by omega) (by omega) hp hup) rfl ?_
        refine XL.m ?_
        refine XL.x ?_
        refine XL.x ?_
        refine XL.alloc (by rfl) (fun b13 => ?_)
        refine XL.sA ?_
        refine XL.a ?_
        refine XL.n2 ?_
        refine SP.cut (X := (Value × List Pl) × List (Pl × Int)) (fun w => [(15, w.1.1), (9, .bool true), (14, .pointer (some ⟨b9, 0, none⟩)), (3, .pointer (some ⟨b1, 0, none⟩)), (4, .pointer (some ⟨b2, 0, none⟩)), (10, .pointer (some ⟨b5, 0, none⟩))]) (fun w => [pt b5 (cel [.map (some m1)] 170), pt b1 (cel [.iface 24 (mp m)] 82), pt b6 (cel [.func (.func 99) #[] #[ptr b5, ptr b1]] 127), MpR Pl.v C2.v m1 l6, Mb m r s, FieldR r g, pt b2 (cel [.int .i64 p.x, .int .i64 p.y, .int .i64 p.z] 49), pt b9 (cel (wvC m 105 106 107 [ptr b8] [ptr b6] [ptr b6, ptr b5]) 175), pt b8 (cel [.map (some m2)] 178), MpR Pl.v i64v m2 w.2, PlS (w.1.1) (w.1.2)]) (fun w => w.1.2.length ≤ 64 ∧ p ∈ w.1.2 ∧ ∀ x ∈ w.1.2, Nbr p 0 x) ?_ hsh24
        refine SP.r2 ?_
        refine XL.m ?_
        refine XL.not_f rfl rfl ?_
        refine XL.m ?_
        refine XL.k ?_
        refine XL.k ?_
        refine XL.k ?_
        refine XL.k ?_
        refine XL.k ?_
        refine XL.pick_t rfl rfl rfl ?_
        refine XL.n2 ?_
        refine SP.t ?_
        refine SP.r2 ?_
        refine XL.l ?_
        refine XL.lA ?_
        refine XL.cw rfl (c108 m r s g p hp) (by repeat' constructor) rfl ?_
        rintro v7 _ ⟨l7, hl7, hp7, hx7, rfl⟩
        refine XL.app3 ?_
        refine XL.know (Rm.know (Rm.here _ _) (fun _ hq => Sl'.len hq)) ?_
        rintro ⟨a7, c7, rfl, _⟩
        refine XL.a ?_
        refine XL.n4 ?_
        refine XL.m ?_
        refine XL.len (by rfl) (by rfl) ?_
        refine XL.m ?_
        refine XL.n2 ?_
        refine SP.block ?_
        refine SP.loop (X := Nat × List (Pl × Int)) (fun w => [(93, .int .i64 (w.1 : Int)), (92, .int .i64 (l7.length : Int)), (91, .slice a7 l7.length c7), (15, .slice a7 l7.length c7), (9, .bool true), (13, .pointer (some ⟨b8, 0, none⟩)), (14, .pointer (some ⟨b9, 0, none⟩)), (3, .pointer (some ⟨b1, 0, none⟩)), (4, .pointer (some ⟨b2, 0, none⟩)), (10, .pointer (some ⟨b5, 0, none⟩))]) (fun w => [pt b5 (cel [.map (some m1)] 170), pt b1 (cel [.iface 24 (mp m)] 82), pt b6 (cel [.func (.func 99) #[] #[ptr b5, ptr b1]] 127), MpR Pl.v C2.v m1 l6, Mb m r s, FieldR r g, pt b2 (cel [.int .i64 p.x, .int .i64 p.y, .int .i64 p.z] 49), pt b9 (cel (wvC m 105 106 107 [ptr b8] [ptr b6] [ptr b6, ptr b5]) 175), pt b8 (cel [.map (some m2)] 178), MpR Pl.v i64v m2 w.2, PlS (.slice a7 l7.length c7) (l7)]) (fun w => w.1 ≤ l7.length ∧ ∀ q, 0 ≤ cntL w.2 q ∧ cntL w.2 q ≤ w.1) (fun w => l7.length - w.1) (0, []) ⟨Nat.zero_le _, fun q => ⟨show (0 : Int) ≤ 0 by decide, show (0 : Int) ≤ 0 by decide⟩⟩ (by repeat' constructor) (Pk.drop (by repeat' constructor)) ?_
        rintro ⟨i, ls⟩ ⟨hi, hcn⟩
        dsimp only at *
        refine SP.r2 ?_
        refine XL.lss_s rfl rfl rfl (fun hc => ?_) (fun hc => ?_)
        ·obtain ⟨t, hgt⟩ : ∃ t, l7[i]? = some t := ⟨_, List.getElem?_eq_getElem (show i < l7.length by omega)⟩
         refine XL.know (Rm.know (A := PlS _ l7) (by repeat' constructor) (fun _ hq => Sl'.ptr hq (by omega))) ?_
         rintro ⟨bl, cl', el, _⟩
         obtain rfl : a7 = some ⟨bl, 0, none⟩ := by injection el
         have hct := hcn t
         refine XL.n5 ?_
         refine SP.t ?_
         refine SP.skip ?_
         refine Jp.then_normal ?_
         refine SP.seq ?_
         refine SP.block ?_
         refine SP.r2 ?_
         refine XL.indexSl (r := i * 3) rfl rfl (by omega) (by omega) (by simp) rfl ?_
         refine XL.loadA (hs := SbL.flat Pl.len hgt rfl) rfl rfl ?_
         refine XL.alloc (by rfl) (fun b14 => ?_)
         refine XL.sA ?_
         refine XL.n4 ?_
         refine XL.m ?_
         refine XL.n2 ?_
         refine SP.t ?_
         refine SP.any (m := 7) Tryz.fol rfl ?_
         refine XA.two (i := 0) (j := 1) rfl rfl (by kernel_rfl) rfl rfl ?_ ?_
         ·refine XL.l ?_
          refine XL.on ?_
          refine XA.o 1 ?_
          refine XL.lA ?_
          refine XL.on ?_
          refine XA.two (i := 2) (j := 4) rfl rfl (by kernel_rfl) rfl rfl ?_ ?_
          ·refine XL.lookup (z := .int .i64 0) (k := t) (ek := Pl.v) (ev' := i64v) (l := ls) rfl rfl (by repeat' constructor) (zeroOf (by kernel_rfl)) rfl ?_
           rw [cntL_v]
           refine XL.on ?_
           refine XA.tk (i := 3) rfl rfl rfl (fun _ _ _ => XL.add_i64 rfl rfl (by omega) (by omega) rfl) ?_
           refine XA.o 4 ?_
           refine XL.mapEntry (k := t) (z := 0) (ek := Pl.v) (ev' := i64v) (l := ls) rfl rfl (zeroOf (by kernel_rfl)) (by repeat' constructor) rfl (fun ve se => ?_)
           refine XL.on ?_
           refine XA.tk (i := 5) rfl rfl rfl (fun _ _ _ => XL.extract rfl rfl rfl) ?_
           refine XA.o 6 ?_
           refine XL.entryStore (k := t) (z := 0) (v := cntL ls t + 1) (ek := Pl.v) (ev' := i64v) (l := ls) rfl rfl rfl (by repeat' constructor) ?_
           refine XL.on ?_
           refine XA.done (by kernel_rfl) ?_
           refine Jp.block_normal ?_
           refine Jp.then_normal ?_
           refine SP.region ?_
           refine XL.add_i64 rfl rfl (by omega) (by omega) rfl ?_
           refine XL.m ?_
           refine XL.nil ?_
           refine Jp.rd (i + 1, setM ls t (cntL ls t + 1)) ⟨by show i + 1 ≤ l7.length; omega, cnt_step hcn⟩ (by show l7.length - (i + 1) < l7.length - i; omega)
          ·refine XL.mapEntry (k := t) (z := 0) (ek := Pl.v) (ev' := i64v) (l := ls) rfl rfl (zeroOf (by kernel_rfl)) (by repeat' constructor) rfl (fun ve se => ?_)
           refine XL.on ?_
           refine XA.tk (i := 5) rfl rfl rfl (fun _ _ _ => XL.extract rfl rfl rfl) ?_
           refine XA.o 2 ?_
           refine XL.lookupE (k := t) (z := 0) (ek := Pl.v) (ev' := i64v) (l := ls) rfl rfl (by repeat' constructor) (zeroOf (by kernel_rfl)) rfl ?_
           rw [show i64v ((getM ls t).getD 0) = .int .i64 (cntL ls t) from rfl]
           refine XL.on ?_
           refine XA.tk (i := 3) rfl rfl rfl (fun _ _ _ => XL.add_i64 rfl rfl (by omega) (by omega) rfl) ?_
           refine XA.o 6 ?_
           refine XL.entryStore (k := t) (z := 0) (v := cntL ls t + 1) (ek := Pl.v) (ev' := i64v) (l := ls) rfl rfl rfl (by repeat' constructor) ?_
           refine XL.on ?_
           refine XA.done (by kernel_rfl) ?_
           refine Jp.block_normal ?_
           refine Jp.then_normal ?_
           refine SP.region ?_
           refine XL.add_i64 rfl rfl (by omega) (by omega) rfl ?_
           refine XL.m ?_
           refine XL.nil ?_
           refine Jp.rd (i + 1, setM ls t (cntL ls t + 1)) ⟨by show i + 1 ≤ l7.length; omega, cnt_step hcn⟩ (by show l7.length - (i + 1) < l7.length - i; omega)
         ·refine XL.lA ?_
          refine XL.on ?_
          refine XA.o 0 ?_
          refine XL.l ?_
          refine XL.on ?_
          refine XA.two (i := 2) (j := 4) rfl rfl (by kernel_rfl) rfl rfl ?_ ?_
          ·refine XL.lookup (z := .int .i64 0) (k := t) (ek := Pl.v) (ev' := i64v) (l := ls) rfl rfl (by repeat' constructor) (zeroOf (by kernel_rfl)) rfl ?_
           rw [cntL_v]
           refine XL.on ?_
           refine XA.tk (i := 3) rfl rfl rfl (fun _ _ _ => XL.add_i64 rfl rfl (by omega) (by omega) rfl) ?_
           refine XA.o 4 ?_
           refine XL.mapEntry (k := t) (z := 0) (ek := Pl.v) (ev' := i64v) (l := ls) rfl rfl (zeroOf (by kernel_rfl)) (by repeat' constructor) rfl (fun ve se => ?_)
           refine XL.on ?_
           refine XA.tk (i := 5) rfl rfl rfl (fun _ _ _ => XL.extract rfl rfl rfl) ?_
           refine XA.o 6 ?_
           refine XL.entryStore (k := t) (z := 0) (v := cntL ls t + 1) (ek := Pl.v) (ev' := i64v) (l := ls) rfl rfl rfl (by repeat' constructor) ?_
           refine XL.on ?_
           refine XA.done (by kernel_rfl) ?_
           refine Jp.block_normal ?_
           refine Jp.then_normal ?_
           refine SP.region ?_
           refine XL.add_i64 rfl rfl (by omega) (by omega) rfl ?_
           refine XL.m ?_
           refine XL.nil ?_
           refine Jp.rd (i + 1, setM ls t (cntL ls t + 1)) ⟨by show i + 1 ≤ l7.length; omega, cnt_step hcn⟩ (by show l7.length - (i + 1) < l7.length - i; omega)
          ·refine XL.mapEntry (k := t) (z := 0) (ek := Pl.v) (ev' := i64v) (l := ls) rfl rfl (zeroOf (by kernel_rfl)) (by repeat' constructor) rfl (fun ve se => ?_)
           refine XL.on ?_
           refine XA.tk (i := 5) rfl rfl rfl (fun _ _ _ => XL.extract rfl rfl rfl) ?_
           refine XA.o 2 ?_
           refine XL.lookupE (k := t) (z := 0) (ek := Pl.v) (ev' := i64v) (l := ls) rfl rfl (by repeat' constructor) (zeroOf (by kernel_rfl)) rfl ?_
           rw [show i64v ((getM ls t).getD 0) = .int .i64 (cntL ls t) from rfl]
           refine XL.on ?_
           refine XA.tk (i := 3) rfl rfl rfl (fun _ _ _ => XL.add_i64 rfl rfl (by omega) (by omega) rfl) ?_
           refine XA.o 6 ?_
           refine XL.entryStore (k := t) (z := 0) (v := cntL ls t + 1) (ek := Pl.v) (ev' := i64v) (l := ls) rfl rfl rfl (by repeat' constructor) ?_
           refine XL.on ?_
           refine XA.done (by kernel_rfl) ?_
           refine Jp.block_normal ?_
           refine Jp.then_normal ?_
           refine SP.region ?_
           refine XL.add_i64 rfl rfl (by omega) (by omega) rfl ?_
           refine XL.m ?_
           refine XL.nil ?_
           refine Jp.rd (i + 1, setM ls t (cntL ls t + 1)) ⟨by show i + 1 ≤ l7.length; omega, cnt_step hcn⟩ (by show l7.length - (i + 1) < l7.length - i; omega)
        ·refine XL.n5 ?_
         refine SP.f ?_
         refine SP.exit ?_
         refine Jp.then_exit ?_
         refine Jp.then_exit ?_
         refine Jp.block_here ?_
         refine Jp.mt ((.slice a7 l7.length c7, l7), ls) ⟨hl7, hp7, hx7⟩
    ·refine XL.m ?_
     rcases is with _ | _
     ·refine XL.m ?_
      refine XL.boolneq rfl rfl Tryz.underlying4 rfl ?_
      refine XL.n2 ?_
      refine SP.t ?_
      refine SP.r2 ?_
      refine XL.makeMap (ek := Pl.v) (ev' := i64v) rfl (fun m2 => ?_)
      refine XL.alloc (by rfl) (fun b8 => ?_)
      refine XL.store (by rfl) (by rfl) (by rfl) ?_
      refine XL.n4 ?_
      refine XL.l ?_
      refine XL.makeFunc (l1 := []) (l2 := [.tmp 13]) rfl rfl rfl ?_
      refine XL.makeFunc (l1 := []) (l2 := [.tmp 11]) rfl rfl rfl ?_
      refine XL.makeFunc (l1 := []) (l2 := [.tmp 11, .tmp 10]) rfl rfl rfl ?_
      refine XL.build (by rfl) (by rfl) ?_
      refine XL.alloc (by rfl) (fun b9 => ?_)
      refine XL.sA ?_
      refine XL.n4 ?_
      refine XL.lA ?_
      refine XL.buildSlice (by rfl) (by rfl) (by rfl) (by decide) rfl (fun bq => ?_)
      refine XL.lit 1 (k := 3) (b := bq) (by repeat' constructor) rfl ?_
      refine XL.a ?_
      refine XL.n2 ?_
      refine SP.share2 (X := (Value × List Pl) × List (Pl × Int)) (fun w => [(15, w.1.1), (9, .bool false), (14, .pointer (some ⟨b9, 0, none⟩)), (3, .pointer (some ⟨b1, 0, none⟩)), (4, .pointer (some ⟨b2, 0, none⟩)), (10, .pointer (some ⟨b5, 0, none⟩))]) (fun w => [pt b5 (cel [.map (some m1)] 170), pt b1 (cel [.iface 24 (mp m)] 82), pt b6 (cel [.func (.func 99) #[] #[ptr b5, ptr b1]] 127), MpR Pl.v C2.v m1 l6, Mb m r s, FieldR r g, pt b2 (cel [.int .i64 p.x, .int .i64 p.y, .int .i64 p.z] 49), pt b9 (cel (wvC m 105 106 107 [ptr b8] [ptr b6] [ptr b6, ptr b5]) 175), pt b8 (cel [.map (some m2)] 178), MpR Pl.v i64v m2 w.2, PlS (w.1.1) (w.1.2)]) (fun w => w.1.2.length ≤ 64 ∧ p ∈ w.1.2 ∧ ∀ x ∈ w.1.2, Nbr p 0 x) ?_ (fun hsh24 => ?_)
      ·rintro ⟨⟨v7, l7⟩, ls⟩ ⟨hl7, hp7, hx7⟩
       dsimp only at *
       refine SP.r2 ?_
       refine XL.closeEx (c := LSc p true g A6 (B0L g)) (E := LSE m r s g b1 b5 b6 m1 [pt b8 (cel [.map (some m2)] 178), MpR Pl.v i64v m2 ls]) (x := l6) hl6.flip (by repeat' constructor) ?_
       refine XL.m ?_
       refine XL.n2 ?_
       refine SP.f ?_
       refine SP.any (m := 5) Tryz.fol rfl ?_
       refine XA.tk (i := 2) rfl rfl rfl (fun _ _ _ => XL.move rfl rfl) ?_
       refine XA.two (i := 0) (j := 1) rfl rfl (by kernel_rfl) rfl rfl ?_ ?_
       ·refine XL.lA ?_
        refine XL.on ?_
        refine XA.o 1 ?_
        refine XL.lA ?_
        refine XL.on ?_
        refine XA.o 3 ?_
        refine XL.cw rfl (c104 p m 105 106 107 [ptr b8] [ptr b6] [ptr b6, ptr b5] (fun A => LS p true m r s g b1 b5 b6 m1 [pt b8 (cel [.map (some m2)] 178), MpR Pl.v i64v m2 ls] A6 A) (fun A q hq => LS.at1 p m r s g b1 b5 b6 m1 _ A6 A q hq) (fun A q n hq h0 h1 => LS.set1 p m r s g b1 b5 b6 m1 _ A6 A hA6 q n hq h0 h1) (B0L g) (B0L_bd hrg) v7 l7 hl7 hx7) (by repeat' constructor) rfl ?_
        rintro v8 _ ⟨l8, A7, hA7, hz7, hn8, hl8, rfl⟩
        refine XL.app2 ?_
        refine XL.on ?_
        refine XA.o 4 ?_
        refine XL.cw rfl (c103 p m 105 106 107 [ptr b8] [ptr b6] [ptr b6, ptr b5] (fun A => LS p true m r s g b1 b5 b6 m1 [pt b8 (cel [.map (some m2)] 178), MpR Pl.v i64v m2 ls] A6 A) (fun A q hq => LS.at1 p m r s g b1 b5 b6 m1 _ A6 A q hq) (fun A q n hq h0 h1 => LS.set1 p m r s g b1 b5 b6 m1 _ A6 A hA6 q n hq h0 h1) (fun q => if 0 < cntL ls q then 15 else 0) (fun q => own15 ls q) (fun A q hq => LS.own1 p m r s g b1 b5 b6 m1 A6 A true b8 m2 ls q) g.cell (fun q hq => (hrg q hq).1) (fun A q hq => LS.cell p m r s g b1 b5 b6 m1 _ A6 A true q hq) A7 (fun q => ⟨(hA7 q).1, Int.le_trans (hA7 q).2 (B0L_bd hrg q).2⟩) v8 l8 hl8 hn8) (by repeat' constructor) rfl ?_
        rintro _ _ ⟨rfl, A8, hB8, rfl⟩
        refine XL.app1 ?_
        refine XL.on ?_
        refine XA.done (by kernel_rfl) ?_
        refine Jp.openEx (by repeat' constructor) ?_
        rintro l9 hl9
        refine Jp.gam (fun h st' => star_app_left (Γ := [pt b5 (cel [.map (some m1)] 170), pt b1 (cel [.iface 24 (mp m)] 82), pt b6 (cel [.func (.func 99) #[] #[ptr b5, ptr b1]] 127), MpR Pl.v C2.v m1 l9, Mb m r s, FieldR r g]) h st') ?_
        refine Jp.mt l9 ⟨hl9.ok, fun h1 h2 => by rw [hl9.is p hp]; show (⟨A8 p, A6 p⟩ : C2) = ⟨0, 0⟩; rw [(hB8.k p h2).trans (hz7 p hp7), hp6 h2]⟩
       ·refine XL.lA ?_
        refine XL.on ?_
        refine XA.two (i := 0) (j := 3) rfl rfl (by kernel_rfl) rfl rfl ?_ ?_
        ·refine XL.lA ?_
         refine XL.on ?_
         refine XA.o 3 ?_
         refine XL.cw rfl (c104 p m 105 106 107 [ptr b8] [ptr b6] [ptr b6, ptr b5] (fun A => LS p true m r s g b1 b5 b6 m1 [pt b8 (cel [.map (some m2)] 178), MpR Pl.v i64v m2 ls] A6 A) (fun A q hq => LS.at1 p m r s g b1 b5 b6 m1 _ A6 A q hq) (fun A q n hq h0 h1 => LS.set1 p m r s g b1 b5 b6 m1 _ A6 A hA6 q n hq h0 h1) (B0L g) (B0L_bd hrg) v7 l7 hl7 hx7) (by repeat' constructor) rfl ?_
         rintro v8 _ ⟨l8, A7, hA7, hz7, hn8, hl8, rfl⟩
         refine XL.app2 ?_
         refine XL.on ?_
         refine XA.o 4 ?_
         refine XL.cw rfl (c103 p m 105 106 107 [ptr b8] [ptr b6] [ptr b6, ptr b5] (fun A => LS p true m r s g b1 b5 b6 m1 [pt b8 (cel [.map (some m2)] 178), MpR Pl.v i64v m2 ls] A6 A) (fun A q hq => LS.at1 p m r s g b1 b5 b6 m1 _ A6 A q hq) (fun A q n hq h0 h1 => LS.set1 p m r s g b1 b5 b6 m1 _ A6 A hA6 q n hq h0 h1) (fun q => if 0 < cntL ls q then 15 else 0) (fun q => own15 ls q) (fun A q hq => LS.own1 p m r s g b1 b5 b6 m1 A6 A true b8 m2 ls q) g.cell (fun q hq => (hrg q hq).1) (fun A q hq => LS.cell p m r s g b1 b5 b6 m1 _ A6 A true q hq) A7 (fun q => ⟨(hA7 q).1, Int.le_trans (hA7 q).2 (B0L_bd hrg q).2⟩) v8 l8 hl8 hn8) (by repeat' constructor) rfl ?_
         rintro _ _ ⟨rfl, A8, hB8, rfl⟩
         refine XL.app1 ?_
         refine XL.on ?_
         refine XA.done (by kernel_rfl) ?_
         refine Jp.openEx (by repeat' constructor) ?_
         rintro l9 hl9
         refine Jp.gam (fun h st' => star_app_left (Γ := [pt b5 (cel [.map (some m1)] 170), pt b1 (cel [.iface 24 (mp m)] 82), pt b6 (cel [.func (.func 99) #[] #[ptr b5, ptr b1]] 127), MpR Pl.v C2.v m1 l9, Mb m r s, FieldR r g]) h st') ?_
         refine Jp.mt l9 ⟨hl9.ok, fun h1 h2 => by rw [hl9.is p hp]; show (⟨A8 p, A6 p⟩ : C2) = ⟨0, 0⟩; rw [(hB8.k p h2).trans (hz7 p hp7), hp6 h2]⟩
        ·refine XL.cw rfl (c104 p m 105 106 107 [ptr b8] [ptr b6] [ptr b6, ptr b5] (fun A => LS p true m r s g b1 b5 b6 m1 [pt b8 (cel [.map (some m2)] 178), MpR Pl.v i64v m2 ls] A6 A) (fun A q hq => LS.at1 p m r s g b1 b5 b6 m1 _ A6 A q hq) (fun A q n hq h0 h1 => LS.set1 p m r s g b1 b5 b6 m1 _ A6 A hA6 q n hq h0 h1) (B0L g) (B0L_bd hrg) v7 l7 hl7 hx7) (by repeat' constructor) rfl ?_
         rintro v8 _ ⟨l8, A7, hA7, hz7, hn8, hl8, rfl⟩
         refine XL.app2 ?_
         refine XL.on ?_
         refine XA.o 0 ?_
         refine XL.lA ?_
         refine XL.on ?_
         refine XA.o 4 ?_
         refine XL.cw rfl (c103 p m 105 106 107 [ptr b8] [ptr b6] [ptr b6, ptr b5] (fun A => LS p true m r s g b1 b5 b6 m1 [pt b8 (cel [.map (some m2)] 178), MpR Pl.v i64v m2 ls] A6 A) (fun A q hq => LS.at1 p m r s g b1 b5 b6 m1 _ A6 A q hq) (fun A q n hq h0 h1 => LS.set1 p m r s g b1 b5 b6 m1 _ A6 A hA6 q n hq h0 h1) (fun q => if 0 < cntL ls q then 15 else 0) (fun q => own15 ls q) (fun A q hq => LS.own1 p m r s g b1 b5 b6 m1 A6 A true b8 m2 ls q) g.cell (fun q hq => (hrg q hq).1) (fun A q hq => LS.cell p m r s g b1 b5 b6 m1 _ A6 A true q hq) A7 (fun q => ⟨(hA7 q).1, Int.le_trans (hA7 q).2 (B0L_bd hrg q).2⟩) v8 l8 hl8 hn8) (by repeat' constructor) rfl ?_
         rintro _ _ ⟨rfl, A8, hB8, rfl⟩
         refine XL.app1 ?_
         refine XL.on ?_
         refine XA.done (by kernel_rfl) ?_
         refine Jp.openEx (by repeat' constructor) ?_
         rintro l9 hl9
         refine Jp.gam (fun h st' => star_app_left (Γ := [pt b5 (cel [.map (some m1)] 170), pt b1 (cel [.iface 24 (mp m)] 82), pt b6 (cel [.func (.func 99) #[] #[ptr b5, ptr b1]] 127), MpR Pl.v C2.v m1 l9, Mb m r s, FieldR r g]) h st') ?_
         refine Jp.mt l9 ⟨hl9.ok, fun h1 h2 => by rw [hl9.is p hp]; show (⟨A8 p, A6 p⟩ : C2) = ⟨0, 0⟩; rw [(hB8.k p h2).trans (hz7 p hp7), hp6 h2]⟩
      ·refine SP.r2 ?_
       refine XL.lA ?_
       by_cases hup : MayQ (stp p 4)
       ·refine XL.cp rfl (c_Step_t p.x p.y p.z 4 (by omega) (by omega) hp hup) rfl ?_
        refine XL.m ?_
        refine XL.x ?_
        refine XL.x ?_
        refine XL.alloc (by rfl) (fun b15 => ?_)
        refine XL.sA ?_
        refine XL.a ?_
        refine XL.n2 ?_
        refine SP.cut (X := (Value × List Pl) × List (Pl × Int)) (fun w => [(15, w.1.1), (9, .bool false), (14, .pointer (some ⟨b9, 0, none⟩)), (3, .pointer (some ⟨b1, 0, none⟩)), (4, .pointer (some ⟨b2, 0, none⟩)), (10, .pointer (some ⟨b5, 0, none⟩))]) (fun w => [pt b5 (cel [.map (some m1)] 170), pt b1 (cel [.iface 24 (mp m)] 82), pt b6 (cel [.func (.func 99) #[] #[ptr b5, ptr b1]] 127), MpR Pl.v C2.v m1 l6, Mb m r s, FieldR r g, pt b2 (cel [.int .i64 p.x, .int .i64 p.y, .int .i64 p.z] 49), pt b9 (cel (wvC m 105 106 107 [ptr b8] [ptr b6] [ptr b6, ptr b5]) 175), pt b8 (cel [.map (some m2)] 178), MpR Pl.v i64v m2 w.2, PlS (w.1.1) (w.1.2)]) (fun w => w.1.2.length ≤ 64 ∧ p ∈ w.1.2 ∧ ∀ x ∈ w.1.2, Nbr p 0 x) ?_ hsh24
        refine SP.r2 ?_
        refine XL.m ?_
        refine XL.not_t rfl rfl ?_
        refine XL.m ?_
        refine XL.g ?_
        refine XL.l ?_
        refine XL.g ?_
        refine XL.lA ?_
        refine XL.g ?_
        refine XL.vr (v1 := []) (v2 := [ptr b5, ptr b1]) rfl rfl (c99 m r s g b5 b1 m1 l6 (stp p 4) hup) (by repeat' constructor) rfl ?_
        refine XL.g ?_
        refine XL.field (by rfl) (by rfl) ?_
        refine XL.g ?_
        refine XL.eql_s rfl rfl rfl (fun h15 => ?_) (fun h15 => ?_)
        ·refine XL.pick_f rfl rfl rfl ?_
         refine XL.n2 ?_
         refine SP.t ?_
         refine SP.r2 ?_
         refine XL.l ?_
         refine XL.lA ?_
         refine XL.cw rfl (c108 m r s g p hp) (by repeat' constructor) rfl ?_
         rintro v7 _ ⟨l7, hl7, hp7, hx7, rfl⟩
         refine XL.app3 ?_
         refine XL.know (Rm.know (Rm.here _ _) (fun _ hq => Sl'.len hq)) ?_
         rintro ⟨a7, c7, rfl, _⟩
         refine XL.a ?_
         refine XL.n4 ?_
         refine XL.m ?_
         refine XL.len (by rfl) (by rfl) ?_
         refine XL.m ?_
         refine XL.n2 ?_
         refine SP.block ?_
         refine SP.loop (X := Nat × List (Pl × Int)) (fun w => [(93, .int .i64 (w.1 : Int)), (92, .int .i64 (l7.length : Int)), (91, .slice a7 l7.length c7), (15, .slice a7 l7.length c7), (9, .bool false), (13, .pointer (some ⟨b8, 0, none⟩)), (14, .pointer (some ⟨b9, 0, none⟩)), (3, .pointer (some ⟨b1, 0, none⟩)), (4, .pointer (some ⟨b2, 0, none⟩)), (10, .pointer (some ⟨b5, 0, none⟩))]) (fun w => [pt b5 (cel [.map (some m1)] 170), pt b1 (cel [.iface 24 (mp m)] 82), pt b6 (cel [.func (.func 99) #[] #[ptr b5, ptr b1]] 127), MpR Pl.v C2.v m1 l6, Mb m r s, FieldR r g, pt b2 (cel [.int .i64 p.x, .int .i64 p.y, .int .i64 p.z] 49), pt b9 (cel (wvC m 105 106 107 [ptr b8] [ptr b6] [ptr b6, ptr b5]) 175), pt b8 (cel [.map (some m2)] 178), MpR Pl.v i64v m2 w.2, PlS (.slice a7 l7.length c7) (l7)]) (fun w => w.1 ≤ l7.length ∧ ∀ q, 0 ≤ cntL w.2 q ∧ cntL w.2 q ≤ w.1) (fun w => l7.length - w.1) (0, []) ⟨Nat.zero_le _, fun q => ⟨show (0 : Int) ≤ 0 by decide, show (0 : Int) ≤ 0 by decide⟩⟩ (by repeat' constructor) (Pk.drop (by repeat' constructor)) ?_
         rintro ⟨i, ls⟩ ⟨hi, hcn⟩
         dsimp only at *
         refine SP.r2 ?_
         refine XL.lss_s rfl rfl rfl (fun hc => ?_) (fun hc => ?_)
         ·obtain ⟨t, hgt⟩ : ∃ t, l7[i]? = some t := ⟨_, List.getElem?_eq_getElem (show i < l7.length by omega)⟩
          refine XL.know (Rm.know (A := PlS _ l7) (by repeat' constructor) (fun _ hq => Sl'.ptr hq (by omega))) ?_
          rintro ⟨bl, cl', el, _⟩
          obtain rfl : a7 = some ⟨bl, 0, none⟩ := by injection el
          have hct := hcn t
          refine XL.n5 ?_
          refine SP.t ?_
          refine SP.skip ?_
          refine Jp.then_normal ?_
          refine SP.seq ?_
          refine SP.block ?_
          refine SP.r2 ?_
          refine XL.indexSl (r := i * 3) rfl rfl (by omega) (by omega) (by simp) rfl ?_
          refine XL.loadA (hs := SbL.flat Pl.len hgt rfl) rfl rfl ?_
          refine XL.alloc (by rfl) (fun b16 => ?_)
          refine XL.sA ?_
          refine XL.n4 ?_
          refine XL.m ?_
          refine XL.n2 ?_
          refine SP.f ?_
          refine SP.skip ?_
          refine Jp.block_normal ?_
          refine Jp.then_normal ?_
          refine SP.region ?_
          refine XL.add_i64 rfl rfl (by omega) (by omega) rfl ?_
          refine XL.m ?_
          refine XL.nil ?_
          refine Jp.rd (i + 1, ls) ⟨by show i + 1 ≤ l7.length; omega, fun q => by have := hcn q; show 0 ≤ cntL ls q ∧ cntL ls q ≤ ((i + 1 : Nat) : Int); omega⟩ (by show l7.length - (i + 1) < l7.length - i; omega)
         ·refine XL.n5 ?_
          refine SP.f ?_
          refine SP.exit ?_
          refine Jp.then_exit ?_
          refine Jp.then_exit ?_
          refine Jp.block_here ?_
          refine Jp.mt ((.slice a7 l7.length c7, l7), ls) ⟨hl7, hp7, hx7⟩
        ·refine XL.pick_f rfl rfl rfl ?_
         refine XL.n2 ?_
         refine SP.f ?_
         refine SP.skip ?_
         refine Jp.mt ((.slice (some ⟨bq, 0, none⟩) 1 1, [p]), []) ⟨by show ([p] : List Pl).length ≤ 64; simp, by show p ∈ [p]; simp, fun x hx => by rw [show x = p by simpa using hx]; exact nbr0 hp⟩
       ·refine XL.cp rfl (c_Step_f p.x p.y p.z 4 (by omega) (by omega) hp hup) rfl ?_
        refine XL.m ?_
        refine XL.x ?_
        refine XL.x ?_
        refine XL.alloc (by rfl) (fun b17 => ?_)
        refine XL.sA ?_
        refine XL.a ?_
        refine XL.n2 ?_
        refine SP.cut (X := (Value × List Pl) × List (Pl × Int)) (fun w => [(15, w.1.1), (9, .bool false), (14, .pointer (some ⟨b9, 0, none⟩)), (3, .pointer (some ⟨b1, 0, none⟩)), (4, .pointer (some ⟨b2, 0, none⟩)), (10, .pointer (some ⟨b5, 0, none⟩))]) (fun w => [pt b5 (cel [.map (some m1)] 170), pt b1 (cel [.iface 24 (mp m)] 82), pt b6 (cel [.func (.func 99) #[] #[ptr b5, ptr b1]] 127), MpR Pl.v C2.v m1 l6, Mb m r s, FieldR r g, pt b2 (cel [.int .i64 p.x, .int .i64 p.y, .int .i64 p.z] 49), pt b9 (cel (wvC m 105 106 107 [ptr b8] [ptr b6] [ptr b6, ptr b5]) 175), pt b8 (cel [.map (some m2)] 178), MpR Pl.v i64v m2 w.2, PlS (w.1.1) (w.1.2)]) (fun w => w.1.2.length ≤ 64 ∧ p ∈ w.1.2 ∧ ∀ x ∈ w.1.2, Nbr p 0 x) ?_ hsh24
        refine SP.r2 ?_
        refine XL.m ?_
        refine XL.not_f rfl rfl ?_
        refine XL.m ?_
        refine XL.k ?_
        refine XL.k ?_
        refine XL.k ?_
        refine XL.k ?_
        refine XL.k ?_
        refine XL.pick_t rfl rfl rfl ?_
        refine XL.n2 ?_
        refine SP.t ?_
        refine SP.r2 ?_
        refine XL.l ?_
        refine XL.lA ?_
        refine XL.cw rfl (c108 m r s g p hp) (by repeat' constructor) rfl ?_
        rintro v7 _ ⟨l7, hl7, hp7, hx7, rfl⟩
        refine XL.app3 ?_
        refine XL.know (Rm.know (Rm.here _ _) (fun _ hq => Sl'.len hq)) ?_
        rintro ⟨a7, c7, rfl, _⟩
        refine XL.a ?_
        refine XL.n4 ?_
        refine XL.m ?_
        refine XL.len (by rfl) (by rfl) ?_
        refine XL.m ?_
        refine XL.n2 ?_
        refine SP.block ?_
        refine SP.loop (X := Nat × List (Pl × Int)) (fun w => [(93, .int .i64 (w.1 : Int)), (92, .int .i64 (l7.length : Int)), (91, .slice a7 l7.length c7), (15, .slice a7 l7.length c7), (9, .bool false), (13, .pointer (some ⟨b8, 0, none⟩)), (14, .pointer (some ⟨b9, 0, none⟩)), (3, .pointer (some ⟨b1, 0, none⟩)), (4, .pointer (some ⟨b2, 0, none⟩)), (10, .pointer (some ⟨b5, 0, none⟩))]) (fun w => [pt b5 (cel [.map (some m1)] 170), pt b1 (cel [.iface 24 (mp m)] 82), pt b6 (cel [.func (.func 99) #[] #[ptr b5, ptr b1]] 127), MpR Pl.v C2.v m1 l6, Mb m r s, FieldR r g, pt b2 (cel [.int .i64 p.x, .int .i64 p.y, .int .i64 p.z] 49), pt b9 (cel (wvC m 105 106 107 [ptr b8] [ptr b6] [ptr b6, ptr b5]) 175), pt b8 (cel [.map (some m2)] 178), MpR Pl.v i64v m2 w.2, PlS (.slice a7 l7.length c7) (l7)]) (fun w => w.1 ≤ l7.length ∧ ∀ q, 0 ≤ cntL w.2 q ∧ cntL w.2 q ≤ w.1) (fun w => l7.length - w.1) (0, []) ⟨Nat.zero_le _, fun q => ⟨show (0 : Int) ≤ 0 by decide, show (0 : Int) ≤ 0 by decide⟩⟩ (by repeat' constructor) (Pk.drop (by repeat' constructor)) ?_
        rintro ⟨i, ls⟩ ⟨hi, hcn⟩
        dsimp only at *
        refine SP.r2 ?_
        refine XL.lss_s rfl rfl rfl (fun hc => ?_) (fun hc => ?_)
        ·obtain ⟨t, hgt⟩ : ∃ t, l7[i]? = some t := ⟨_, List.getElem?_eq_getElem (show i < l7.length by omega)⟩
         refine XL.know (Rm.know (A := PlS _ l7) (by repeat' constructor) (fun _ hq => Sl'.ptr hq (by omega))) ?_
         rintro ⟨bl, cl', el, _⟩
         obtain rfl : a7 = some ⟨bl, 0, none⟩ := by injection el
         have hct := hcn t
         refine XL.n5 ?_
         refine SP.t ?_
         refine SP.skip ?_
         refine Jp.then_normal ?_
         refine SP.seq ?_
         refine SP.block ?_
         refine SP.r2 ?_
         refine XL.indexSl (r := i * 3) rfl rfl (by omega) (by omega) (by simp) rfl ?_
         refine XL.loadA (hs := SbL.flat Pl.len hgt rfl) rfl rfl ?_
         refine XL.alloc (by rfl) (fun b18 => ?_)
         refine XL.sA ?_
         refine XL.n4 ?_
         refine XL.m ?_
         refine XL.n2 ?_
         refine SP.f ?_
         refine SP.skip ?_
         refine Jp.block_normal ?_
         refine Jp.then_normal ?_
         refine SP.region ?_
         refine XL.add_i64 rfl rfl (by omega) (by omega) rfl ?_
         refine XL.m ?_
         refine XL.nil ?_
         refine Jp.rd (i + 1, ls) ⟨by show i + 1 ≤ l7.length; omega, fun q => by have := hcn q; show 0 ≤ cntL ls q ∧ cntL ls q ≤ ((i + 1 : Nat) : Int); omega⟩ (by show l7.length - (i + 1) < l7.length - i; omega)
        ·refine XL.n5 ?_
         refine SP.f ?_
         refine SP.exit ?_
         refine Jp.then_exit ?_
         refine Jp.then_exit ?_
         refine Jp.block_here ?_
         refine Jp.mt ((.slice a7 l7.length c7, l7), ls) ⟨hl7, hp7, hx7⟩
     ·refine XL.m ?_
      refine XL.boolneq rfl rfl Tryz.underlying4 rfl ?_
      refine XL.n2 ?_
      refine SP.f ?_
      refine SP.skip ?_
      refine Jp.mt l6 ⟨hl6.ok, fun _ h2 => absurd (his.1 rfl) h2⟩
 ·refine SP.seq ?_
  refine SP.quiet Tryz.fol (by kernel_rfl) ?_
  refine XL.lA ?_
  refine XL.cs rfl (c97 _ _ (ho).1 (ho).2.1 (ho).2.2.1 (ho).2.2.2) rfl (fun hw => ?_) (fun hw => ?_)
  ·refine XL.lA ?_
   refine XL.cs rfl (c97 _ _ ((hrg p hp).1).1 ((hrg p hp).1).2.1 ((hrg p hp).1).2.2.1 ((hrg p hp).1).2.2.2) rfl (fun hi => ?_) (fun hi => ?_)
   ·refine XL.a ?_
    refine XL.a ?_
    refine XL.nilq_end ?_
    refine Jp.then_normal ?_
    refine SP.cut (X := Bool × Bool) (fun w => [(3, .pointer (some ⟨b1, 0, none⟩)), (4, .pointer (some ⟨b2, 0, none⟩)), (8, .bool w.1), (9, .bool w.2)]) (fun w => [pt b1 (cel [.iface 24 (mp m)] 82), pt b2 (cel [.int .i64 p.x, .int .i64 p.y, .int .i64 p.z] 49), Mb m r s, FieldR r g]) (fun w => (w.1 = true ↔ clrC old) ∧ (w.2 = true ↔ clrC (g.cell p))) ?_ hsh7
    refine SP.seq ?_
    refine SP.quiet Tryz.fol (by kernel_rfl) ?_
    refine XL.m ?_
    refine XL.m ?_
    refine XL.booleql rfl rfl Tryz.underlying4 rfl ?_
    refine XL.m ?_
    refine XL.g ?_
    refine XL.lA ?_
    refine XL.g ?_
    refine XL.cp rfl (c98 _ _ ho.1 ho.2.1 ho.2.2.1 ho.2.2.2) rfl ?_
    refine XL.g ?_
    refine XL.lA ?_
    refine XL.g ?_
    refine XL.cp rfl (c98 _ _ (hrg p hp).1.1 (hrg p hp).1.2.1 (hrg p hp).1.2.2.1 (hrg p hp).1.2.2.2) rfl ?_
    refine XL.g ?_
    refine XL.eql_s rfl rfl rfl (fun hl => ?_) (fun hl => ?_)
    ·refine XL.pick_t rfl rfl rfl ?_
     refine XL.nilq_end ?_
     refine Jp.then_normal ?_
     refine SP.t ?_
     refine SP.r2 ?_
     refine XL.a ?_
     refine XL.n2 ?_
     refine SP.ret ?_
     refine Jp.then_ret ?_
     exact Jp.go (Pk.drop (Γ1 := [Mb m r s, FieldR r g]) (by repeat' constructor)) (Jp.end1 (.inr rfl) rfl rfl ⟨0, g, rfl, rfl, rfl, rfl, fun h1 h2 => by first | exact absurd hi h2 | exact absurd h1 hw, rfl⟩)
    ·refine XL.pick_t rfl rfl rfl ?_
     refine XL.nilq_end ?_
     refine Jp.then_normal ?_
     refine SP.f ?_
     refine SP.skip ?_
     refine Jp.mt (true, true) ⟨⟨fun _ => hw, fun _ => rfl⟩, ⟨fun _ => hi, fun _ => rfl⟩⟩
   ·refine XL.a ?_
    refine XL.a ?_
    refine XL.nilq_end ?_
    refine Jp.then_normal ?_
    refine SP.cut (X := Bool × Bool) (fun w => [(3, .pointer (some ⟨b1, 0, none⟩)), (4, .pointer (some ⟨b2, 0, none⟩)), (8, .bool w.1), (9, .bool w.2)]) (fun w => [pt b1 (cel [.iface 24 (mp m)] 82), pt b2 (cel [.int .i64 p.x, .int .i64 p.y, .int .i64 p.z] 49), Mb m r s, FieldR r g]) (fun w => (w.1 = true ↔ clrC old) ∧ (w.2 = true ↔ clrC (g.cell p))) ?_ hsh7
    refine SP.seq ?_
    refine SP.quiet Tryz.fol (by kernel_rfl) ?_
    refine XL.m ?_
    refine XL.m ?_
    refine XL.booleql rfl rfl Tryz.underlying4 rfl ?_
    refine XL.m ?_
    refine XL.k ?_
    refine XL.k ?_
    refine XL.k ?_
    refine XL.k ?_
    refine XL.k ?_
    refine XL.pick_f rfl rfl rfl ?_
    refine XL.nilq_end ?_
    refine Jp.then_normal ?_
    refine SP.f ?_
    refine SP.skip ?_
    refine Jp.mt (true, false) ⟨⟨fun _ => hw, fun _ => rfl⟩, ⟨fun h => absurd h (by decide), fun h => absurd h hi⟩⟩
  ·refine XL.lA ?_
   refine XL.cs rfl (c97 _ _ ((hrg p hp).1).1 ((hrg p hp).1).2.1 ((hrg p hp).1).2.2.1 ((hrg p hp).1).2.2.2) rfl (fun hi => ?_) (fun hi => ?_)
   ·refine XL.a ?_
    refine XL.a ?_
    refine XL.nilq_end ?_
    refine Jp.then_normal ?_
    refine SP.cut (X := Bool × Bool) (fun w => [(3, .pointer (some ⟨b1, 0, none⟩)), (4, .pointer (some ⟨b2, 0, none⟩)), (8, .bool w.1), (9, .bool w.2)]) (fun w => [pt b1 (cel [.iface 24 (mp m)] 82), pt b2 (cel [.int .i64 p.x, .int .i64 p.y, .int .i64 p.z] 49), Mb m r s, FieldR r g]) (fun w => (w.1 = true ↔ clrC old) ∧ (w.2 = true ↔ clrC (g.cell p))) ?_ hsh7
    refine SP.seq ?_
    refine SP.quiet Tryz.fol (by kernel_rfl) ?_
    refine XL.m ?_
    refine XL.m ?_
    refine XL.booleql rfl rfl Tryz.underlying4 rfl ?_
    refine XL.m ?_
    refine XL.k ?_
    refine XL.k ?_
    refine XL.k ?_
    refine XL.k ?_
    refine XL.k ?_
    refine XL.pick_f rfl rfl rfl ?_
    refine XL.nilq_end ?_
    refine Jp.then_normal ?_
    refine SP.f ?_
    refine SP.skip ?_
    refine Jp.mt (false, true) ⟨⟨fun h => absurd h (by decide), fun h => absurd h hw⟩, ⟨fun _ => hi, fun _ => rfl⟩⟩
   ·refine XL.a ?_
    refine XL.a ?_
    refine XL.nilq_end ?_
    refine Jp.then_normal ?_
    refine SP.cut (X := Bool × Bool) (fun w => [(3, .pointer (some ⟨b1, 0, none⟩)), (4, .pointer (some ⟨b2, 0, none⟩)), (8, .bool w.1), (9, .bool w.2)]) (fun w => [pt b1 (cel [.iface 24 (mp m)] 82), pt b2 (cel [.int .i64 p.x, .int .i64 p.y, .int .i64 p.z] 49), Mb m r s, FieldR r g]) (fun w => (w.1 = true ↔ clrC old) ∧ (w.2 = true ↔ clrC (g.cell p))) ?_ hsh7
    refine SP.seq ?_
    refine SP.quiet Tryz.fol (by kernel_rfl) ?_
    refine XL.m ?_
    refine XL.m ?_
    refine XL.booleql rfl rfl Tryz.underlying4 rfl ?_
    refine XL.m ?_
    refine XL.g ?_
    refine XL.lA ?_
    refine XL.g ?_
    refine XL.cp rfl (c98 _ _ ho.1 ho.2.1 ho.2.2.1 ho.2.2.2) rfl ?_
    refine XL.g ?_
    refine XL.lA ?_
    refine XL.g ?_
    refine XL.cp rfl (c98 _ _ (hrg p hp).1.1 (hrg p hp).1.2.1 (hrg p hp).1.2.2.1 (hrg p hp).1.2.2.2) rfl ?_
    refine XL.g ?_
    refine XL.eql_s rfl rfl rfl (fun hl => ?_) (fun hl => ?_)
    ·refine XL.pick_t rfl rfl rfl ?_
     refine XL.nilq_end ?_
     refine Jp.then_normal ?_
     refine SP.t ?_
     refine SP.r2 ?_
     refine XL.a ?_
     refine XL.n2 ?_
     refine SP.ret ?_
     refine Jp.then_ret ?_
     exact Jp.go (Pk.drop (Γ1 := [Mb m r s, FieldR r g]) (by repeat' constructor)) (Jp.end1 (.inr rfl) rfl rfl ⟨0, g, rfl, rfl, rfl, rfl, fun h1 h2 => by first | exact absurd hi h2 | exact absurd h1 hw, rfl⟩)
    ·refine XL.pick_t rfl rfl rfl ?_
     refine XL.nilq_end ?_
     refine Jp.then_normal ?_
     refine SP.f ?_
     refine SP.skip ?_
     refine Jp.mt (false, false) ⟨⟨fun h => absurd h (by decide), fun h => absurd h hw⟩, ⟨fun h => absurd h (by decide), fun h => absurd h hi⟩⟩
end Go.Proofs

namespace Go.Proofs
open Go.Bk
theorem wk_cell (g : Fld) (q : Pl) (n d : Int) : (g.wk q n d).cell = g.cell := by unfold Fld.wk; split <;> rfl
theorem wk_light (g : Fld) (q : Pl) (n d : Int) : (g.wk q n d).light = g.light := by unfold Fld.wk; split <;> rfl
theorem wk_D (g : Fld) (q : Pl) (n d : Int) : (g.wk q n d).D = g.D := by unfold Fld.wk; split <;> rfl
theorem wk_due (g : Fld) {q p : Pl} (n d : Int) (h : p ≠ q) : (g.wk q n d).due p = g.due p := by
 unfold Fld.wk; split
 ·show (if p = q then _ else g.due p) = g.due p
  rw [if_neg h]
 ·rfl
theorem wk_congr {g h : Fld} {p : Pl} (n d : Int) (e : g.due p = h.due p) : (g.wk p n d).due p = (h.wk p n d).due p := by
 unfold Fld.wk; split
 ·show (if p = p then (if g.due p = 0 then _ else _) else g.due p) = (if p = p then (if h.due p = 0 then _ else _) else h.due p)
  rw [if_pos rfl, if_pos rfl, e]
 ·exact e
theorem stp_ne (p : Pl) (d : Int) (h : 0 ≤ d ∧ d ≤ 5) : p ≠ stp p d := by
 obtain ⟨x, y, z⟩ := p
 simp only [stp, stx, sty, stz, ne_eq, Pl.mk.injEq]
 repeat' split <;> omega
theorem stp_ne2 (p : Pl) (d : Int) (h : 0 ≤ d ∧ d ≤ 3) : p ≠ stp (stp p 4) d := by
 obtain ⟨x, y, z⟩ := p
 simp only [stp, stx, sty, stz, ne_eq, Pl.mk.injEq]
 repeat' split <;> omega
structure ChgOk (s : St) (g : Fld) (p : Pl) (c : C2) (g' : Fld) : Prop where
 cell : g'.cell = (g.put p c).cell
 D : g'.D = g.D + mv c - mv (g.cell p)
 light : clrC (g.cell p) → ¬ clrC c → g'.light p = ⟨0, 0⟩
 due : g'.due p = (g.wk p s.now (delayK c.a)).due p
theorem ChgOk.wk {s : St} {g : Fld} {p q : Pl} {c : C2} {g' : Fld} (h : ChgOk s g p c g') (n d : Int) (hq : p ≠ q) : ChgOk s g p c (g'.wk q n d) :=
 ⟨by rw [wk_cell]; exact h.cell, by rw [wk_D]; exact h.D, fun a b => by rw [wk_light]; exact h.light a b, by rw [wk_due g' n d hq]; exact h.due⟩
theorem put_self (g : Fld) (p : Pl) (c : C2) : (g.put p c).cell p = c := if_pos rfl
theorem ChgOk.start {s : St} {g g1 : Fld} {p : Pl} {c : C2} (h1 : g1.cell = (g.put p c).cell) (h2 : g1.due = (g.put p c).due) (h3 : g1.D = (g.put p c).D) (h4 : clrC (g.cell p) → ¬ clrC ((g.put p c).cell p) → g1.light p = ⟨0, 0⟩) : ChgOk s g p c (g1.wk p s.now (delayK c.a)) :=
 ⟨by rw [wk_cell]; exact h1, by rw [wk_D, h3]; rfl, fun a b => by rw [wk_light]; exact h4 a (by rw [put_self]; exact b), wk_congr _ _ (by rw [h2]; rfl)⟩
theorem c55 (m r : Nat) (s : St) (g : Fld) (p : Pl) (hp : MayQ p) (c : C2) (hc : C2.rng c) (hnow : 0 ≤ s.now ∧ s.now ≤ 1099511627776) : Tri Tryz.prog 55 [rv m, plv p, c2v c] [Mb m r s, FieldR r g] (fun v Γ' => v = .tuple #[] ∧ ∃ g', ChgOk s g p c g' ∧ Γ' = [Mb m r s, FieldR r g']) := by
 refine Pcalls (n := 53) Tryz.func55 rfl rfl rfl fun W0 H0 => ?_
 refine SP.know (Rm.know (by repeat' constructor) FieldR.rng) ?_
 intro hrg
 refine SP.r2 ?_
 refine XL.boxA rfl rfl (fun b1 => ?_)
 refine XL.boxA rfl rfl (fun b2 => ?_)
 refine XL.boxA rfl rfl (fun b3 => ?_)
 refine XL.n4 ?_
 refine XL.f ?_
 refine XL.l ?_
 refine XL.lA ?_
 refine XL.ir (r := (g.cell p).v) rfl rfl (F_Cell m r s g p hp) (by repeat' constructor) rfl ?_
 refine XL.alloc (by rfl) (fun b4 => ?_)
 refine XL.sA ?_
 refine XL.n4 ?_
 refine XL.f ?_
 refine XL.l ?_
 refine XL.lA ?_
 refine XL.lA ?_
 refine XL.iw rfl rfl (F_Put m r s g p hp c hc) (by repeat' constructor) rfl ?_
 rintro _ _ ⟨rfl, rfl⟩
 refine XL.app2 ?_
 refine XL.n4 ?_
 refine XL.f ?_
 refine XL.l ?_
 refine XL.lA ?_
 refine XL.lA ?_
 refine XL.cw rfl (c79 m r s (g.put p c) p hp (g.cell p) (hrg p hp).1) (by repeat' constructor) rfl ?_
 rintro _ _ ⟨nn, g1, rfl, h1, h2, h3, h4, rfl⟩
 refine XL.app2 ?_
 refine XL.n5 ?_
 refine SP.tail 5 Tryz.fol (by kernel_rfl) ?_
 refine XL.lA ?_
 refine XL.lA ?_
 refine XL.f ?_
 refine XL.l ?_
 refine XL.cp rfl (c81 _) rfl ?_
 refine XL.nilq_tail ?_
 refine XL.cw rfl (c80 m r s g1 p hp (delayK c.a) (delayK_bd _).2 hnow) (by repeat' constructor) rfl ?_
 rintro _ _ ⟨rfl, rfl⟩
 refine XL.app2 ?_
 refine XL.n5 ?_
 refine SP.r2 ?_
 refine XL.m ?_
 refine XL.n2 ?_
 refine SP.block ?_
 refine SP.loop (X := Nat × Fld) (fun w => [(31, .int .i64 (w.1 : Int)), (3, .pointer (some ⟨b1, 0, none⟩)), (4, .pointer (some ⟨b2, 0, none⟩))]) (fun w => [pt b1 (cel [.iface 24 (mp m), mp m] 114), pt b2 (cel [.int .i64 p.x, .int .i64 p.y, .int .i64 p.z] 49), Mb m r s, FieldR r w.2]) (fun w => w.1 ≤ 6 ∧ ChgOk s g p c w.2) (fun w => 6 - w.1) (0, g1.wk p s.now (delayK c.a)) ⟨Nat.zero_le _, ChgOk.start h1 h2 h3 h4⟩ (by repeat' constructor) (Pk.drop (by repeat' constructor)) ?_
 rintro ⟨i, g2⟩ ⟨hi, hC2⟩
 dsimp only at *
 refine SP.r2 ?_
 refine XL.lss_s rfl rfl rfl (fun hk => ?_) (fun hk => ?_)
 ·refine XL.n5 ?_
  refine SP.t ?_
  refine SP.skip ?_
  refine Jp.then_normal ?_
  refine SP.seq ?_
  refine SP.block ?_
  refine SP.r2 ?_
  refine XL.m ?_
  refine XL.a ?_
  refine XL.n3 ?_
  refine XL.lA ?_
  refine XL.lA ?_
  refine XL.m ?_
  by_cases hs : MayQ (stp p (i : Int))
  ·refine XL.cw rfl (rouse_t m r s g2 p hp (i : Int) (by omega) (by omega) hnow hs) (by repeat' constructor) rfl ?_
   rintro _ _ ⟨rfl, rfl⟩
   refine XL.app2 ?_
   refine XL.nil ?_
   refine Jp.block_normal ?_
   refine Jp.then_normal ?_
   refine SP.region ?_
   refine XL.add_i64 rfl rfl (by omega) (by omega) rfl ?_
   refine XL.m ?_
   refine XL.nil ?_
   refine Jp.rd (i + 1, g2.wk (stp p (i : Int)) s.now _) ⟨by show i + 1 ≤ 6; omega, hC2.wk _ _ (stp_ne p (i : Int) (by omega))⟩ (by show 6 - (i + 1) < 6 - i; omega)
  ·refine XL.cw rfl (rouse_f m r s g2 p hp (i : Int) (by omega) (by omega) hnow hs) (by repeat' constructor) rfl ?_
   rintro _ _ ⟨rfl, rfl⟩
   refine XL.app2 ?_
   refine XL.nil ?_
   refine Jp.block_normal ?_
   refine Jp.then_normal ?_
   refine SP.region ?_
   refine XL.add_i64 rfl rfl (by omega) (by omega) rfl ?_
   refine XL.m ?_
   refine XL.nil ?_
   refine Jp.rd (i + 1, g2) ⟨by show i + 1 ≤ 6; omega, hC2⟩ (by show 6 - (i + 1) < 6 - i; omega)
 ·refine XL.n5 ?_
  refine SP.f ?_
  refine SP.exit ?_
  refine Jp.then_exit ?_
  refine Jp.then_exit ?_
  refine Jp.block_here ?_
  refine Jp.n4 ?_
  refine XL.lA ?_
  by_cases hup : MayQ (stp p 4)
  ·refine XL.cp rfl (c_Step_t p.x p.y p.z 4 (by omega) (by omega) hp hup) rfl ?_
   refine XL.m ?_
   refine XL.x ?_
   refine XL.x ?_
   refine XL.alloc (by rfl) (fun b6 => ?_)
   refine XL.sA ?_
   refine XL.a ?_
   refine XL.n4 ?_
   refine XL.m ?_
   refine XL.n2 ?_
   refine SP.t ?_
   refine SP.r2 ?_
   refine XL.m ?_
   refine XL.n2 ?_
   refine SP.block ?_
   refine SP.loop (X := Nat × Fld) (fun w => [(45, .int .i64 (w.1 : Int)), (3, .pointer (some ⟨b1, 0, none⟩)), (8, .pointer (some ⟨b6, 0, none⟩))]) (fun w => [pt b1 (cel [.iface 24 (mp m), mp m] 114), pt b6 (cel (stp p 4).cs 49), Mb m r s, FieldR r w.2]) (fun w => w.1 ≤ 4 ∧ ChgOk s g p c w.2) (fun w => 4 - w.1) (0, g2) ⟨Nat.zero_le _, hC2⟩ (by repeat' constructor) (Pk.drop (by repeat' constructor)) ?_
   rintro ⟨i, g2⟩ ⟨hi, hC2⟩
   dsimp only at *
   refine SP.r2 ?_
   refine XL.lss_s rfl rfl rfl (fun hk => ?_) (fun hk => ?_)
   ·refine XL.n5 ?_
    refine SP.t ?_
    refine SP.skip ?_
    refine Jp.then_normal ?_
    refine SP.seq ?_
    refine SP.block ?_
    refine SP.r2 ?_
    refine XL.m ?_
    refine XL.a ?_
    refine XL.n3 ?_
    refine XL.lA ?_
    refine XL.lA ?_
    refine XL.m ?_
    by_cases hs : MayQ (stp (stp p 4) (i : Int))
    ·refine XL.cw rfl (rouse_t m r s g2 (stp p 4) hup (i : Int) (by omega) (by omega) hnow hs) (by repeat' constructor) rfl ?_
     rintro _ _ ⟨rfl, rfl⟩
     refine XL.app2 ?_
     refine XL.nil ?_
     refine Jp.block_normal ?_
     refine Jp.then_normal ?_
     refine SP.region ?_
     refine XL.add_i64 rfl rfl (by omega) (by omega) rfl ?_
     refine XL.m ?_
     refine XL.nil ?_
     refine Jp.rd (i + 1, g2.wk (stp (stp p 4) (i : Int)) s.now _) ⟨by show i + 1 ≤ 4; omega, hC2.wk _ _ (stp_ne2 p (i : Int) (by omega))⟩ (by show 4 - (i + 1) < 4 - i; omega)
    ·refine XL.cw rfl (rouse_f m r s g2 (stp p 4) hup (i : Int) (by omega) (by omega) hnow hs) (by repeat' constructor) rfl ?_
     rintro _ _ ⟨rfl, rfl⟩
     refine XL.app2 ?_
     refine XL.nil ?_
     refine Jp.block_normal ?_
     refine Jp.then_normal ?_
     refine SP.region ?_
     refine XL.add_i64 rfl rfl (by omega) (by omega) rfl ?_
     refine XL.m ?_
     refine XL.nil ?_
     refine Jp.rd (i + 1, g2) ⟨by show i + 1 ≤ 4; omega, hC2⟩ (by show 4 - (i + 1) < 4 - i; omega)
   ·refine XL.n5 ?_
    refine SP.f ?_
    refine SP.exit ?_
    refine Jp.then_exit ?_
    refine Jp.then_exit ?_
    refine Jp.block_here ?_
    exact Jp.go (Pk.drop (Γ1 := [Mb m r s, FieldR r g2]) (by repeat' constructor)) (Jp.end0 (.inl rfl) rfl ⟨rfl, g2, hC2, rfl⟩)
  ·refine XL.cp rfl (c_Step_f p.x p.y p.z 4 (by omega) (by omega) hp hup) rfl ?_
   refine XL.m ?_
   refine XL.x ?_
   refine XL.x ?_
   refine XL.alloc (by rfl) (fun b6 => ?_)
   refine XL.sA ?_
   refine XL.a ?_
   refine XL.n4 ?_
   refine XL.m ?_
   refine XL.n2 ?_
   refine SP.f ?_
   refine SP.skip ?_
   exact Jp.go (Pk.drop (Γ1 := [Mb m r s, FieldR r g2]) (by repeat' constructor)) (Jp.end0 (.inl rfl) rfl ⟨rfl, g2, hC2, rfl⟩)
def w64 (n : Int) : Int := IntKind.i64.wrap n
theorem w64_mod (n : Int) : (w64 n - n) % 18446744073709551616 = 0 := by
 unfold w64 IntKind.wrap
 simp only [IntKind.bits, IntKind.signed, Bool.true_and]
 split <;> omega
def Led (s : St) : Int := s.placed - s.broken + s.grown - s.burnt
def LedOk (s : St) (g : Fld) : Prop := (Led s - g.D) % 18446744073709551616 = 0
structure StLike (s s' : St) : Prop where
 now : s'.now = s.now
 seed : s'.seed = s.seed
 a0 : s'.a0 = s.a0
 on0 : s'.on0 = s.on0
 a1 : s'.a1 = s.a1
 on1 : s'.on1 = s.on1
theorem StLike.refl (s : St) : StLike s s := ⟨rfl, rfl, rfl, rfl, rfl, rfl⟩
theorem StLike.trans {a b c : St} (h : StLike a b) (k : StLike b c) : StLike a c := ⟨k.now.trans h.now, k.seed.trans h.seed, k.a0.trans h.a0, k.on0.trans h.on0, k.a1.trans h.a1, k.on1.trans h.on1⟩
structure EdOk (s : St) (g : Fld) (p : Pl) (c : C2) (s' : St) (g' : Fld) : Prop where
 like : StLike s s'
 led : LedOk s g → LedOk s' g'
 is : g.cell p ≠ c → s'.placed = (if KMov c.a then w64 (s.placed + 1) else s.placed) ∧ ChgOk s g p c g'
theorem EdOk.of {s s' : St} {g g' : Fld} {p : Pl} {c : C2} (hl : StLike s s') (h1 : s'.placed = if KMov c.a then w64 (s.placed + 1) else s.placed) (h2 : s'.broken = if KMov (g.cell p).a then w64 (s.broken + 1) else s.broken) (h3 : s'.grown = s.grown) (h4 : s'.burnt = s.burnt) (hC : ChgOk s g p c g') : EdOk s g p c s' g' := by
 refine ⟨hl, fun h => ?_, fun _ => ⟨h1, hC⟩⟩
 unfold LedOk Led at *
 rw [hC.D, h1, h2, h3, h4]
 have e1 := w64_mod (s.placed + 1)
 have e2 := w64_mod (s.broken + 1)
 unfold mv
 split <;> split <;> omega
theorem ChgOk.st {s s' : St} {g g' : Fld} {p : Pl} {c : C2} (h : ChgOk s' g p c g') (e : s'.now = s.now) : ChgOk s g p c g' := ⟨h.cell, h.D, h.light, by rw [← e]; exact h.due⟩
theorem c50 (m r : Nat) (s : St) (g : Fld) (p : Pl) (hp : MayQ p) (c : C2) (hc : C2.rng c) (hnow : 0 ≤ s.now ∧ s.now ≤ 1099511627776) : Tri Tryz.prog 50 [rv m, plv p, c2v c] [Mb m r s, FieldR r g] (fun v Γ' => v = .tuple #[] ∧ ∃ s' g', EdOk s g p c s' g' ∧ Γ' = [Mb m r s', FieldR r g']) := by
 refine Pcalls (n := 44) Tryz.func50 rfl rfl rfl fun W0 H0 => ?_
 refine SP.know (Rm.know (by repeat' constructor) FieldR.rng) ?_
 intro hrg
 refine SP.r2 ?_
 refine XL.boxA rfl rfl (fun b1 => ?_)
 refine XL.boxA rfl rfl (fun b2 => ?_)
 refine XL.boxA rfl rfl (fun b3 => ?_)
 refine XL.n4 ?_
 refine XL.f ?_
 refine XL.l ?_
 refine XL.lA ?_
 refine XL.ir (r := (g.cell p).v) rfl rfl (F_Cell m r s g p hp) (by repeat' constructor) rfl ?_
 refine XL.alloc (by rfl) (fun b4 => ?_)
 refine XL.sA ?_
 refine XL.n5 ?_
 refine SP.r2 ?_
 refine XL.lA ?_
 refine XL.lA ?_
 refine XL.eqlT (g.cell p) c (by rfl) (by rfl) rfl (fun he => ?_) (fun he => ?_)
 ·refine XL.n2 ?_
  refine SP.t ?_
  refine SP.ret ?_
  refine Jp.then_ret ?_
  exact Jp.go (Pk.drop (Γ1 := [Mb m r s, FieldR r g]) (by repeat' constructor)) (Jp.end0 (.inr rfl) rfl ⟨rfl, s, g, ⟨StLike.refl s, id, fun h => absurd he h⟩, rfl⟩)
 ·refine XL.n2 ?_
  refine SP.f ?_
  refine SP.skip ?_
  refine Jp.then_normal ?_
  refine SP.seq ?_
  refine SP.r2 ?_
  refine XL.f ?_
  refine XL.l ?_
  refine XL.cs rfl (c26 _ ((hrg p hp).1).1 ((hrg p hp).1).2.1) rfl (fun hm => ?_) (fun hm => ?_)
  ·refine XL.n2 ?_
   refine SP.t ?_
   refine SP.region ?_
   refine XL.f ?_
   refine XL.l ?_
   refine XL.nilCheck rfl rfl ?_
   refine XL.f ?_
   refine XL.f ?_
   refine XL.l ?_
   refine XL.addw (by rfl) (by rfl) (by rfl) ?_
   refine XL.nilCheck rfl rfl ?_
   refine XL.f ?_
   refine XL.f ?_
   refine XL.store (by rfl) (by rfl) (by rfl) ?_
   refine XL.n5 ?_
   refine SP.r2 ?_
   refine XL.f ?_
   refine XL.l ?_
   refine XL.cs rfl (c26 _ (hc).1 (hc).2.1) rfl (fun hn => ?_) (fun hn => ?_)
   ·refine XL.n2 ?_
    refine SP.t ?_
    refine SP.region ?_
    refine XL.f ?_
    refine XL.l ?_
    refine XL.nilCheck rfl rfl ?_
    refine XL.f ?_
    refine XL.f ?_
    refine XL.l ?_
    refine XL.addw (by rfl) (by rfl) (by rfl) ?_
    refine XL.nilCheck rfl rfl ?_
    refine XL.f ?_
    refine XL.f ?_
    refine XL.store (by rfl) (by rfl) (by rfl) ?_
    refine XL.n3 ?_
    refine XL.lA ?_
    refine XL.lA ?_
    refine XL.lA ?_
    refine XL.cw rfl (c55 m r { s with broken := w64 (s.broken + 1), placed := w64 (s.placed + 1) } g p hp c hc hnow) (by repeat' constructor) rfl ?_
    rintro _ _ ⟨rfl, g2, hC2, rfl⟩
    refine XL.app2 ?_
    refine XL.nil ?_
    exact Jp.go (Pk.drop (Γ1 := [Mb m r { s with broken := w64 (s.broken + 1), placed := w64 (s.placed + 1) }, FieldR r g2]) (by repeat' constructor)) (Jp.end0 (.inl rfl) rfl ⟨rfl, { s with broken := w64 (s.broken + 1), placed := w64 (s.placed + 1) }, g2, EdOk.of ⟨rfl, rfl, rfl, rfl, rfl, rfl⟩ (by rw [if_pos hn]) (by rw [if_pos hm]) rfl rfl (hC2.st rfl), rfl⟩)
   ·refine XL.n2 ?_
    refine SP.f ?_
    refine SP.skip ?_
    refine Jp.then_normal ?_
    refine SP.region ?_
    refine XL.lA ?_
    refine XL.lA ?_
    refine XL.lA ?_
    refine XL.cw rfl (c55 m r { s with broken := w64 (s.broken + 1) } g p hp c hc hnow) (by repeat' constructor) rfl ?_
    rintro _ _ ⟨rfl, g2, hC2, rfl⟩
    refine XL.app2 ?_
    refine XL.nil ?_
    exact Jp.go (Pk.drop (Γ1 := [Mb m r { s with broken := w64 (s.broken + 1) }, FieldR r g2]) (by repeat' constructor)) (Jp.end0 (.inl rfl) rfl ⟨rfl, { s with broken := w64 (s.broken + 1) }, g2, EdOk.of ⟨rfl, rfl, rfl, rfl, rfl, rfl⟩ (by rw [if_neg hn]) (by rw [if_pos hm]) rfl rfl (hC2.st rfl), rfl⟩)
  ·refine XL.n2 ?_
   refine SP.f ?_
   refine SP.skip ?_
   refine Jp.then_normal ?_
   refine SP.seq ?_
   refine SP.r2 ?_
   refine XL.f ?_
   refine XL.l ?_
   refine XL.cs rfl (c26 _ (hc).1 (hc).2.1) rfl (fun hn => ?_) (fun hn => ?_)
   ·refine XL.n2 ?_
    refine SP.t ?_
    refine SP.region ?_
    refine XL.f ?_
    refine XL.l ?_
    refine XL.nilCheck rfl rfl ?_
    refine XL.f ?_
    refine XL.f ?_
    refine XL.l ?_
    refine XL.addw (by rfl) (by rfl) (by rfl) ?_
    refine XL.nilCheck rfl rfl ?_
    refine XL.f ?_
    refine XL.f ?_
    refine XL.store (by rfl) (by rfl) (by rfl) ?_
    refine XL.n3 ?_
    refine XL.lA ?_
    refine XL.lA ?_
    refine XL.lA ?_
    refine XL.cw rfl (c55 m r { s with placed := w64 (s.placed + 1) } g p hp c hc hnow) (by repeat' constructor) rfl ?_
    rintro _ _ ⟨rfl, g2, hC2, rfl⟩
    refine XL.app2 ?_
    refine XL.nil ?_
    exact Jp.go (Pk.drop (Γ1 := [Mb m r { s with placed := w64 (s.placed + 1) }, FieldR r g2]) (by repeat' constructor)) (Jp.end0 (.inl rfl) rfl ⟨rfl, { s with placed := w64 (s.placed + 1) }, g2, EdOk.of ⟨rfl, rfl, rfl, rfl, rfl, rfl⟩ (by rw [if_pos hn]) (by rw [if_neg hm]) rfl rfl (hC2.st rfl), rfl⟩)
   ·refine XL.n2 ?_
    refine SP.f ?_
    refine SP.skip ?_
    refine Jp.then_normal ?_
    refine SP.region ?_
    refine XL.lA ?_
    refine XL.lA ?_
    refine XL.lA ?_
    refine XL.cw rfl (c55 m r s g p hp c hc hnow) (by repeat' constructor) rfl ?_
    rintro _ _ ⟨rfl, g2, hC2, rfl⟩
    refine XL.app2 ?_
    refine XL.nil ?_
    exact Jp.go (Pk.drop (Γ1 := [Mb m r s, FieldR r g2]) (by repeat' constructor)) (Jp.end0 (.inl rfl) rfl ⟨rfl, s, g2, EdOk.of ⟨rfl, rfl, rfl, rfl, rfl, rfl⟩ (by rw [if_neg hn]) (by rw [if_neg hm]) rfl rfl (hC2.st rfl), rfl⟩)
end Go.Proofs

namespace Go.Proofs
open Go.Bk
def plc (p : Pl) (d : Int) : Pl := if d = 0 then p else stp p (d - 1)
theorem plc_0 (p : Pl) : plc p 0 = p := rfl
theorem plc_s (p : Pl) {d : Int} (h : 0 < d) : plc p d = stp p (d - 1) := if_neg (by omega)
theorem seven {d : Int} (h : 0 ≤ d ∧ d ≤ 6) : d = 0 ∨ d = 1 ∨ d = 2 ∨ d = 3 ∨ d = 4 ∨ d = 5 ∨ d = 6 := by omega
def dsp (d : Int) : Int := if d = 1 then 1 else if d = 2 then -1 else if d = 3 then 10 else if d = 4 then -10 else if d = 5 then 100 else if d = 6 then -100 else 0
theorem plc_dsp (p : Pl) {d : Int} (h : 0 ≤ d ∧ d ≤ 6) : (plc p d).x - p.x + 10 * ((plc p d).z - p.z) + 100 * ((plc p d).y - p.y) = dsp d := by
 rcases seven h with rfl | rfl | rfl | rfl | rfl | rfl | rfl <;> simp [plc, stp, stx, sty, stz, dsp] <;> omega
theorem plc_inj {p : Pl} {d e : Int} (hd : 0 ≤ d ∧ d ≤ 6) (he : 0 ≤ e ∧ e ≤ 6) (h : plc p d = plc p e) : d = e := by
 have h1 := plc_dsp p hd
 have h2 := plc_dsp p he
 rw [h, h2] at h1
 rcases seven hd with rfl | rfl | rfl | rfl | rfl | rfl | rfl <;> rcases seven he with rfl | rfl | rfl | rfl | rfl | rfl | rfl <;> first | rfl | exact absurd h1 (by decide)
theorem at_plc {g : Fld} {p : Pl} {n : Nr} (h : NrIs g p n 6) (hp : MayQ p) {d : Int} (hd : 0 ≤ d ∧ d ≤ 6) (hb : 0 < d → (n.at d).a ≠ 1) : MayQ (plc p d) ∧ n.at d = g.cell (plc p d) := by
 by_cases e : d = 0
 ·subst e; exact ⟨hp, h.self⟩
 ·have hs := h.s (d - 1).toNat (by omega)
  have h1 : n.at d = n.s (d - 1).toNat := by unfold Nr.at; rw [if_neg e]
  have h2 := hb (by omega)
  rw [h1, hs] at h2
  rw [plc_s p (by omega), h1, hs]
  have e3 : (((d - 1).toNat : Nat) : Int) = d - 1 := by omega
  unfold sideC at h2 ⊢
  rw [e3] at h2 ⊢
  by_cases g1 : MayQ (stp p (d - 1))
  ·rw [if_pos g1]; exact ⟨g1, rfl⟩
  ·rw [if_neg g1] at h2; exact absurd rfl h2
theorem sumD_snoc (n : Nr) (l : List Cg) (c : Cg) : sumD n (l ++ [c]) = sumD n l + (mv c.c - mv (n.at c.dir)) := by
 induction l with
 | nil => simp [sumD]
 | cons x l ih => rw [List.cons_append, sumD_cons, sumD_cons, ih]; omega
structure RcI (g : Fld) (p : Pl) (n : Nr) (l : List Cg) (i : Nat) (g' : Fld) : Prop where
 D : g'.D = g.D + sumD n (l.take i)
 cell : ∀ q, (∀ x ∈ l.take i, plc p x.dir ≠ q) → g'.cell q = g.cell q
theorem RcI.next {s : St} {g g1 g2 : Fld} {p : Pl} {n : Nr} {l : List Cg} {i : Nat} {c : Cg} {ag dl : Int} (h : RcI g p n l i g1) (hn : NrIs g p n 6) (hp : MayQ p) (hd : DeedOk n l ag dl) (hg : l[i]? = some c) (hC : ChgOk s g1 (plc p c.dir) c.c g2) : RcI g p n l (i + 1) g2 := by
 have hm := List.mem_of_getElem? hg
 obtain ⟨d0, d6, hr, hb⟩ := hd.dir c hm
 obtain ⟨m1, m2⟩ := at_plc hn hp ⟨d0, d6⟩ hb
 have e : l.take (i + 1) = l.take i ++ [c] := by rw [List.take_add_one, hg]; rfl
 have hcell : g1.cell (plc p c.dir) = n.at c.dir := by
  rw [m2]
  refine h.cell _ fun x hx he => ?_
  obtain ⟨x0, x6, _⟩ := hd.dir x (List.mem_of_mem_take hx)
  have hdir := plc_inj ⟨x0, x6⟩ ⟨d0, d6⟩ he
  obtain ⟨j, hj, ej⟩ := List.getElem_of_mem hx
  rw [List.length_take] at hj
  rw [List.getElem_take] at ej
  obtain ⟨hi, ei⟩ := List.getElem?_eq_some_iff.1 hg
  have := List.pairwise_iff_getElem.1 hd.nd j i (by omega) hi (by omega)
  rw [ej, ei] at this
  exact this hdir
 refine ⟨?_, fun q hq => ?_⟩
 ·rw [hC.D, h.D, e, sumD_snoc, hcell]; omega
 ·rw [hC.cell]
  have h1 : q ≠ plc p c.dir := fun he => hq c (by rw [e]; simp) he.symm
  show (if q = plc p c.dir then c.c else g1.cell q) = g.cell q
  rw [if_neg h1]
  exact h.cell q fun x hx => hq x (by rw [e]; exact List.mem_append_left _ hx)
theorem c88 (m r : Nat) (s : St) (g : Fld) (p : Pl) (hp : MayQ p) (hnow : 0 ≤ s.now ∧ s.now ≤ 1099511627776) : Tri Tryz.prog 88 [rv m, plv p] [Mb m r s, FieldR r g] (fun v Γ' => v = .tuple #[] ∧ ∃ s' g', StLike s s' ∧ (LedOk s g → LedOk s' g') ∧ Γ' = [Mb m r s', FieldR r g']) := by
 refine Pcalls (n := 69) Tryz.func88 rfl rfl rfl fun W0 H0 => ?_
 refine SP.r2 ?_
 refine XL.boxA rfl rfl (fun b1 => ?_)
 refine XL.boxA rfl rfl (fun b2 => ?_)
 refine XL.n4 ?_
 refine XL.lA ?_
 refine XL.lA ?_
 refine XL.cw rfl (c117 m r s g p hp) (by repeat' constructor) rfl ?_
 rintro _ _ ⟨n, hn, rfl, rfl⟩
 refine XL.app2 ?_
 refine XL.cw rfl (c116 n hn.ok) (Pk.nil _) rfl ?_
 rintro _ _ ⟨a, mm, c, l, ag, dl, rfl, hD, rfl⟩
 refine XL.app1 ?_
 refine XL.know (Rm.know (Rm.here _ _) (fun _ hq => Sl'.len hq)) ?_
 rintro ⟨a', c', e0, _⟩
 obtain rfl : mm = l.length := by injection e0
 refine XL.alloc (by rfl) (fun b3 => ?_)
 refine XL.sA ?_
 refine XL.n5 ?_
 refine SP.r2 ?_
 refine XL.f ?_
 refine XL.l ?_
 refine XL.len (by rfl) (by rfl) ?_
 refine XL.m ?_
 refine XL.n2 ?_
 refine SP.block ?_
 refine SP.loop (X := Nat × Fld) (fun w => [(15, .int .i64 (w.1 : Int)), (14, .int .i64 (l.length : Int)), (13, .slice a l.length c), (2, .pointer (some ⟨b1, 0, none⟩)), (3, .pointer (some ⟨b2, 0, none⟩)), (4, .pointer (some ⟨b3, 0, none⟩))]) (fun w => [pt b1 (cel [.iface 24 (mp m), mp m] 114), pt b2 (cel [.int .i64 p.x, .int .i64 p.y, .int .i64 p.z] 49), pt b3 (cel [.slice a l.length c, .int .i64 ag, .int .i64 dl] 202), CgS (.slice a l.length c) l, Mb m r s, FieldR r w.2]) (fun w => w.1 ≤ l.length ∧ RcI g p n l w.1 w.2) (fun w => l.length - w.1) (0, g) ⟨Nat.zero_le _, by simp [sumD], fun q hq => rfl⟩ (by repeat' constructor) (Pk.drop (by repeat' constructor)) ?_
 rintro ⟨i, g1⟩ ⟨hi, hI⟩
 dsimp only at *
 have hll := hD.len
 refine SP.r2 ?_
 refine XL.lss_s rfl rfl rfl (fun hk => ?_) (fun hk => ?_)
 ·obtain ⟨x, hgt⟩ : ∃ t, l[i]? = some t := ⟨_, List.getElem?_eq_getElem (show i < l.length by omega)⟩
  have hxd := hD.dir x (List.mem_of_getElem? hgt)
  refine XL.know (Rm.know (A := CgS _ l) (by repeat' constructor) (fun _ hq => Sl'.ptr hq (by omega))) ?_
  rintro ⟨bl, cl, el, _⟩
  obtain rfl : a = some ⟨bl, 0, none⟩ := by injection el
  refine XL.n5 ?_
  refine SP.t ?_
  refine SP.skip ?_
  refine Jp.then_normal ?_
  refine SP.seq ?_
  refine SP.block ?_
  refine SP.r2 ?_
  refine XL.indexSl (r := i * 3) rfl rfl (by omega) (by omega) (by simp) rfl ?_
  refine XL.loadA (hs := SbL.flat Cg.len hgt rfl) rfl rfl ?_
  refine XL.alloc (by rfl) (fun b4 => ?_)
  refine XL.sA ?_
  refine XL.n4 ?_
  refine XL.lA ?_
  refine XL.alloc (by rfl) (fun b5 => ?_)
  refine XL.sA ?_
  refine XL.n5 ?_
  refine SP.r2 ?_
  refine XL.f ?_
  refine XL.l ?_
  refine XL.gtr_s rfl rfl rfl (fun hx0 => ?_) (fun hx0 => ?_)
  ·have hst : MayQ (stp p (x.dir - 1)) := by have := (at_plc hn hp ⟨hxd.1, hxd.2.1⟩ hxd.2.2.2).1; rwa [plc_s p hx0] at this
   refine XL.n2 ?_
   refine SP.t ?_
   refine SP.region ?_
   refine XL.lA ?_
   refine XL.f ?_
   refine XL.l ?_
   refine XL.sub_i64 rfl rfl (by have := hxd.2.1; omega) (by have := hxd.2.1; omega) rfl ?_
   refine XL.cp rfl (c_Step_t p.x p.y p.z (x.dir - 1) (by omega) (by have := hxd.2.1; omega) hp hst) rfl ?_
   refine XL.m ?_
   refine XL.x ?_
   refine XL.x ?_
   refine XL.sA ?_
   refine XL.n3 ?_
   refine XL.lA ?_
   refine XL.lA ?_
   refine XL.f ?_
   refine XL.lA ?_
   refine XL.cw rfl (c55 m r s g1 (stp p (x.dir - 1)) hst x.c hxd.2.2.1 hnow) (by repeat' constructor) rfl ?_
   rintro _ _ ⟨rfl, g2, hC2, rfl⟩
   refine XL.app2 ?_
   refine XL.nil ?_
   refine Jp.block_normal ?_
   refine Jp.then_normal ?_
   refine SP.region ?_
   refine XL.add_i64 rfl rfl (by omega) (by omega) rfl ?_
   refine XL.m ?_
   refine XL.nil ?_
   refine Jp.rd (i + 1, g2) ⟨by show i + 1 ≤ l.length; omega, hI.next hn hp hD hgt (s := s) (by rw [plc_s p hx0]; exact hC2)⟩ (by show l.length - (i + 1) < l.length - i; omega)
  ·have hx0 : x.dir = 0 := by have := hxd.1; omega
   refine XL.n2 ?_
   refine SP.f ?_
   refine SP.skip ?_
   refine Jp.then_normal ?_
   refine SP.region ?_
   refine XL.lA ?_
   refine XL.lA ?_
   refine XL.f ?_
   refine XL.lA ?_
   refine XL.cw rfl (c55 m r s g1 (p) hp x.c hxd.2.2.1 hnow) (by repeat' constructor) rfl ?_
   rintro _ _ ⟨rfl, g2, hC2, rfl⟩
   refine XL.app2 ?_
   refine XL.nil ?_
   refine Jp.block_normal ?_
   refine Jp.then_normal ?_
   refine SP.region ?_
   refine XL.add_i64 rfl rfl (by omega) (by omega) rfl ?_
   refine XL.m ?_
   refine XL.nil ?_
   refine Jp.rd (i + 1, g2) ⟨by show i + 1 ≤ l.length; omega, hI.next hn hp hD hgt (s := s) (by rw [hx0, plc_0]; exact hC2)⟩ (by show l.length - (i + 1) < l.length - i; omega)
 ·refine XL.n5 ?_
  refine SP.f ?_
  refine SP.exit ?_
  refine Jp.then_exit ?_
  refine Jp.then_exit ?_
  refine Jp.block_here ?_
  refine Jp.n4 ?_
  refine XL.lA ?_
  refine XL.lA ?_
  refine XL.f ?_
  refine XL.l ?_
  refine XL.cw rfl (c80 m r s g1 p hp ag hD.ag.2 hnow) (by repeat' constructor) rfl ?_
  rintro _ _ ⟨rfl, rfl⟩
  refine XL.app2 ?_
  refine XL.n4 ?_
  refine XL.f ?_
  refine XL.l ?_
  refine XL.gtr_s rfl rfl rfl (fun hdl => ?_) (fun hdl => ?_)
  ·refine XL.n2 ?_
   refine SP.t ?_
   refine SP.tail 12 Tryz.fol (by kernel_rfl) ?_
   refine XL.f ?_
   refine XL.l ?_
   refine XL.nilCheck rfl rfl ?_
   refine XL.f ?_
   refine XL.f ?_
   refine XL.l ?_
   refine XL.f ?_
   refine XL.l ?_
   refine XL.addw rfl rfl rfl ?_
   refine XL.nilCheck rfl rfl ?_
   refine XL.f ?_
   refine XL.f ?_
   refine XL.nilq_tail ?_
   refine XL.store (by rfl) (by rfl) (by rfl) ?_
   refine XL.nil ?_
   obtain rfl : i = l.length := by omega
   exact Jp.go (Pk.drop (Γ1 := [Mb m r { s with grown := w64 (s.grown + dl) }, FieldR r (g1.wk p s.now ag)]) (by repeat' constructor)) (Jp.end0 (.inl rfl) rfl ⟨rfl, { s with grown := w64 (s.grown + dl) }, _, ⟨rfl, rfl, rfl, rfl, rfl, rfl⟩, fun hL => by have h1 := hI.D; rw [List.take_length, hD.sum] at h1; have h2 := w64_mod (s.grown + dl); unfold LedOk Led at *; rw [wk_D, h1]; show (s.placed - s.broken + w64 (s.grown + dl) - s.burnt - (g.D + dl)) % 18446744073709551616 = 0; omega, rfl⟩)
  ·refine XL.n2 ?_
   refine SP.f ?_
   refine SP.tail 12 Tryz.fol (by kernel_rfl) ?_
   refine XL.f ?_
   refine XL.l ?_
   refine XL.nilCheck rfl rfl ?_
   refine XL.f ?_
   refine XL.f ?_
   refine XL.l ?_
   refine XL.f ?_
   refine XL.l ?_
   refine XL.subw rfl rfl rfl ?_
   refine XL.nilCheck rfl rfl ?_
   refine XL.f ?_
   refine XL.f ?_
   refine XL.nilq_tail ?_
   refine XL.store (by rfl) (by rfl) (by rfl) ?_
   refine XL.nil ?_
   obtain rfl : i = l.length := by omega
   exact Jp.go (Pk.drop (Γ1 := [Mb m r { s with burnt := w64 (s.burnt - dl) }, FieldR r (g1.wk p s.now ag)]) (by repeat' constructor)) (Jp.end0 (.inl rfl) rfl ⟨rfl, { s with burnt := w64 (s.burnt - dl) }, _, ⟨rfl, rfl, rfl, rfl, rfl, rfl⟩, fun hL => by have h1 := hI.D; rw [List.take_length, hD.sum] at h1; have h2 := w64_mod (s.burnt - dl); unfold LedOk Led at *; rw [wk_D, h1]; show (s.placed - s.broken + s.grown - w64 (s.burnt - dl) - (g.D + dl)) % 18446744073709551616 = 0; omega, rfl⟩)
end Go.Proofs

namespace Go.Proofs
open Go.Bk
@[reducible] def QC (v : Value) (ws : List Int) : List Value := v :: (ws.map i64v ++ [.bool true])
@[reducible] def QB (b : Nat) (v : Value) (ws : List Int) : Asn := pt b (cel (QC v ws) 194)
theorem QC.made (v : Value) {ws : List Int} (hw : ws.length = 4096) : GtL (QC v ws) 4097 (.bool true) := ⟨by
 show (v :: (ws.map i64v ++ [.bool true]))[4096 + 1]? = _
 rw [List.getElem?_cons_succ, List.getElem?_append_right (by simp [hw])]; simp [hw]⟩
theorem QC.at (v : Value) {ws : List Int} (hw : ws.length = 4096) {i : Nat} (hi : i < 4096) : GtL (QC v ws) (1 + i) (i64v (ws.getD i 0)) := ⟨by
 rw [Nat.add_comm]
 show (v :: (ws.map i64v ++ [.bool true]))[i + 1]? = _
 rw [List.getElem?_cons_succ, List.getElem?_append_left (by simp [hw]; omega), List.getElem?_map, List.getElem?_eq_getElem (by omega)]
 simp [List.getD_eq_getElem?_getD, List.getElem?_eq_getElem (show i < ws.length by omega)]⟩
theorem QC.st (v : Value) {ws : List Int} (hw : ws.length = 4096) {i : Nat} (hi : i < 4096) (x : Int) : StL (QC v ws) (1 + i) [i64v x] (QC v (ws.set i x)) := ⟨by simp [hw]; omega, by
 rw [Nat.add_comm]
 have h1 : (ws.set i x).map i64v = (ws.take i).map i64v ++ i64v x :: (ws.drop (i + 1)).map i64v := by
  rw [List.set_eq_take_append_cons_drop, if_pos (by omega)]; simp
 have h2 : ws.map i64v = (ws.take i).map i64v ++ (ws.drop i).map i64v := by rw [← List.map_append, List.take_append_drop]
 have hl : ((ws.take i).map i64v).length = i := by simp; omega
 show v :: ((ws.set i x).map i64v ++ [.bool true]) = (v :: (ws.map i64v ++ [.bool true])).take (i + 1) ++ [i64v x] ++ (v :: (ws.map i64v ++ [.bool true])).drop (i + 1 + 1)
 rw [List.take_succ_cons, List.drop_succ_cons, h1]
 rw [List.take_append_of_le_length (by simp; omega), List.drop_append_of_le_length (by simp; omega), ← List.map_take, ← List.map_drop]
 simp⟩
def RngT (ts : List Tk) : Prop := ∀ t ∈ ts, 0 ≤ t.i ∧ t.i < 4096
def ltT (s t : Tk) : Prop := s.due < t.due ∨ s.due = t.due ∧ s.i < t.i
instance (s t : Tk) : Decidable (ltT s t) := by unfold ltT; infer_instance
theorem quoUp (j : Nat) (h : j ≤ 100000) : IntKind.i64.wrap (((j : Int) - 1).tdiv 2) = (((j - 1) / 2 : Nat) : Int) := by
 rcases Nat.eq_zero_or_pos j with rfl | hj
 ·decide
 ·rw [quo64 (by omega) (by omega) (by decide)]; omega
theorem swap_rng {ts : List Tk} (h : RngT ts) {i j : Nat} {x y : Tk} (hx : ts[i]? = some x) (hy : ts[j]? = some y) : RngT ((ts.set i y).set j x) := fun t ht => h t ((swap_perm hx hy).mem_iff.1 ht)
theorem RngT.perm {ts us : List Tk} (h : RngT ts) (p : us.Perm ts) : RngT us := fun t ht => h t (p.mem_iff.1 ht)
theorem set_get {ts : List Tk} {i j : Nat} {x y : Tk} (hx : ts[i]? = some x) (hy : ts[j]? = some y) : ∃ z, ((ts.set i y).set j x)[i]? = some z ∧ (z = x ∨ z = y) := by
 obtain ⟨hi, _⟩ := List.getElem?_eq_some_iff.1 hx
 rw [List.getElem?_set]
 split
 ·rename_i e; subst e; exact ⟨x, by simp; omega, .inl rfl⟩
 ·exact ⟨y, by rw [List.getElem?_set_self hi], .inr rfl⟩
theorem c132 (a : Option Addr) (m c : Nat) : Pur Tryz.prog 132 [.slice a m c] (.int .i64 (m : Int)) := by
 refine Pcalls (n := 5) Tryz.func132 rfl rfl rfl fun W0 H0 => ?_
 refine SP.r2 ?_
 refine XL.a ?_
 refine XL.n4 ?_
 refine XL.m ?_
 refine XL.len (by rfl) (by rfl) ?_
 refine XL.a ?_
 refine XL.n2 ?_
 refine SP.ret ?_
 refine Jp.pur1 (.inr rfl) rfl rfl rfl
theorem c112 (t : Tk) : Pur Tryz.prog 112 [.agg #[.int .i64 t.i, .int .i64 t.due]] (.bool (decide (0 ≤ t.i ∧ t.i < 4096 ∧ 1 ≤ t.due ∧ t.due ≤ 2199023255552))) := by
 refine Pcalls (n := 21) Tryz.func112 rfl rfl rfl fun W0 H0 => ?_
 refine SP.r2 ?_
 refine XL.boxA rfl rfl (fun b1 => ?_)
 refine XL.a ?_
 refine XL.n4 ?_
 refine XL.f ?_
 refine XL.l ?_
 refine XL.geq_s rfl rfl rfl (fun h1 => ?_) (fun h1 => ?_)
 ·refine XL.m ?_
  refine XL.g ?_
  refine XL.f ?_
  refine XL.g ?_
  refine XL.l ?_
  refine XL.g ?_
  refine XL.lss_s rfl rfl rfl (fun h2 => ?_) (fun h2 => ?_)
  ·refine XL.pick_t rfl rfl rfl ?_
   refine XL.m ?_
   refine XL.g ?_
   refine XL.f ?_
   refine XL.g ?_
   refine XL.l ?_
   refine XL.g ?_
   refine XL.geq_s rfl rfl rfl (fun h3 => ?_) (fun h3 => ?_)
   ·refine XL.pick_t rfl rfl rfl ?_
    refine XL.m ?_
    refine XL.g ?_
    refine XL.f ?_
    refine XL.g ?_
    refine XL.l ?_
    refine XL.g ?_
    refine XL.leq_s rfl rfl rfl (fun h4 => ?_) (fun h4 => ?_)
    ·refine XL.pick_t rfl rfl rfl ?_
     refine XL.a ?_
     refine XL.n2 ?_
     refine SP.ret ?_
     refine Jp.pur1 (.inr rfl) rfl rfl ?_
     first | exact bt (by omega) | exact bf (by omega)
    ·refine XL.pick_t rfl rfl rfl ?_
     refine XL.a ?_
     refine XL.n2 ?_
     refine SP.ret ?_
     refine Jp.pur1 (.inr rfl) rfl rfl ?_
     first | exact bt (by omega) | exact bf (by omega)
   ·refine XL.pick_t rfl rfl rfl ?_
    refine XL.m ?_
    refine XL.k ?_
    refine XL.k ?_
    refine XL.k ?_
    refine XL.pick_f rfl rfl rfl ?_
    refine XL.a ?_
    refine XL.n2 ?_
    refine SP.ret ?_
    refine Jp.pur1 (.inr rfl) rfl rfl ?_
    first | exact bt (by omega) | exact bf (by omega)
  ·refine XL.pick_t rfl rfl rfl ?_
   refine XL.m ?_
   refine XL.k ?_
   refine XL.k ?_
   refine XL.k ?_
   refine XL.pick_f rfl rfl rfl ?_
   refine XL.m ?_
   refine XL.k ?_
   refine XL.k ?_
   refine XL.k ?_
   refine XL.pick_f rfl rfl rfl ?_
   refine XL.a ?_
   refine XL.n2 ?_
   refine SP.ret ?_
   refine Jp.pur1 (.inr rfl) rfl rfl ?_
   first | exact bt (by omega) | exact bf (by omega)
 ·refine XL.m ?_
  refine XL.k ?_
  refine XL.k ?_
  refine XL.k ?_
  refine XL.pick_f rfl rfl rfl ?_
  refine XL.m ?_
  refine XL.k ?_
  refine XL.k ?_
  refine XL.k ?_
  refine XL.pick_f rfl rfl rfl ?_
  refine XL.m ?_
  refine XL.k ?_
  refine XL.k ?_
  refine XL.k ?_
  refine XL.pick_f rfl rfl rfl ?_
  refine XL.a ?_
  refine XL.n2 ?_
  refine SP.ret ?_
  refine Jp.pur1 (.inr rfl) rfl rfl ?_
  first | exact bt (by omega) | exact bf (by omega)
theorem c131 (b : Nat) (v : Value) (ws : List Int) (hw : ws.length = 4096) : Tri Tryz.prog 131 [.pointer (some ⟨b, 0, none⟩)] [QB b v ws] (fun r Γ' => r = .bool true ∧ Γ' = [QB b v ws]) := by
 refine Pcalls (n := 11) Tryz.func131 rfl rfl rfl fun W0 H0 => ?_
 refine SP.r2 ?_
 refine XL.a ?_
 refine XL.n4 ?_
 refine XL.m ?_
 refine XL.pnnil_neq rfl rfl ?_
 refine XL.m ?_
 refine XL.g ?_
 refine XL.m ?_
 refine XL.g ?_
 refine XL.nilCheck rfl rfl ?_
 refine XL.g ?_
 refine XL.f ?_
 refine XL.g ?_
 refine XL.load (hv := QC.made v hw) rfl rfl ?_
 refine XL.pick_t rfl rfl rfl ?_
 refine XL.a ?_
 refine XL.n2 ?_
 refine SP.ret ?_
 exact Jp.go (Pk.drop (Γ1 := [QB b v ws]) (by repeat' constructor)) (Jp.end1 (.inr rfl) rfl rfl ⟨rfl, rfl⟩)
theorem c131_0  : Pur Tryz.prog 131 [.pointer none] (.bool false) := by
 refine Pcalls (n := 11) Tryz.func131 rfl rfl rfl fun W0 H0 => ?_
 refine SP.r2 ?_
 refine XL.a ?_
 refine XL.n4 ?_
 refine XL.m ?_
 refine XL.pnil_neq rfl rfl ?_
 refine XL.m ?_
 refine XL.k ?_
 refine XL.k ?_
 refine XL.k ?_
 refine XL.k ?_
 refine XL.pick_f rfl rfl rfl ?_
 refine XL.a ?_
 refine XL.n2 ?_
 refine SP.ret ?_
 refine Jp.pur1 (.inr rfl) rfl rfl rfl
theorem c223 (a cap n i j : Nat) (ts : List Tk) (hl : ts.length = n) (s t : Tk) (hs : ts[i]? = some s) (ht : ts[j]? = some t) (hn : n ≤ 100000) : Tri Tryz.prog 223 [.slice (some ⟨a, 0, none⟩) n cap, .int .i64 (i : Int), .int .i64 (j : Int)] [TkN (.slice (some ⟨a, 0, none⟩) n cap) n ts] (fun r Γ' => r = .bool (decide (ltT s t)) ∧ Γ' = [TkN (.slice (some ⟨a, 0, none⟩) n cap) n ts]) := by
 refine Pcalls (n := 44) Tryz.func223 rfl rfl rfl fun W0 H0 => ?_
 have hi := (List.getElem?_eq_some_iff.1 hs).1
 have hj := (List.getElem?_eq_some_iff.1 ht).1
 refine SP.r2 ?_
 refine XL.a ?_
 refine XL.n5 ?_
 refine SP.quiet Tryz.fol (by kernel_rfl) ?_
 refine XL.m ?_
 refine XL.m ?_
 refine XL.indexSl (r := (i) * 2) rfl rfl (by omega) (by omega) (by omega) rfl ?_
 refine XL.f ?_
 refine XL.load (hv := GtL.sub (j := 1) (SbL.flat Tk.len hs rfl) rfl) rfl rfl ?_
 refine XL.m ?_
 refine XL.m ?_
 refine XL.indexSl (r := (j) * 2) rfl rfl (by omega) (by omega) (by omega) rfl ?_
 refine XL.f ?_
 refine XL.load (hv := GtL.sub (j := 1) (SbL.flat Tk.len ht rfl) rfl) rfl rfl ?_
 refine XL.lss_s rfl rfl rfl (fun h1 => ?_) (fun h1 => ?_)
 ·refine XL.m ?_
  refine XL.k ?_
  refine XL.k ?_
  refine XL.k ?_
  refine XL.k ?_
  refine XL.k ?_
  refine XL.k ?_
  refine XL.k ?_
  refine XL.k ?_
  refine XL.k ?_
  refine XL.k ?_
  refine XL.k ?_
  refine XL.k ?_
  refine XL.skipU rfl rfl rfl rfl ?_
  refine XL.skipU rfl rfl rfl rfl ?_
  refine XL.skipU rfl rfl rfl rfl ?_
  refine XL.skipU rfl rfl rfl rfl ?_
  refine XL.skipU rfl rfl rfl rfl ?_
  refine XL.skipU rfl rfl rfl rfl ?_
  refine XL.skipU rfl rfl rfl rfl ?_
  refine XL.skipU rfl rfl rfl rfl ?_
  refine XL.skipU rfl rfl rfl rfl ?_
  refine XL.skipU rfl rfl rfl rfl ?_
  refine XL.skipU rfl rfl rfl rfl ?_
  refine XL.k ?_
  refine XL.pick_t rfl rfl rfl ?_
  refine XL.a ?_
  refine XL.nilq_end ?_
  refine Jp.then_normal ?_
  refine SP.ret ?_
  refine Jp.go (Pk.drop (Γ1 := [TkN (.slice (some ⟨a, 0, none⟩) n cap) n ts]) (by repeat' constructor)) (Jp.end1 (.inr rfl) rfl rfl ⟨?_, rfl⟩)
  first | exact bt (by unfold ltT; omega) | exact bf (by unfold ltT; omega)
 ·refine XL.m ?_
  refine XL.g ?_
  refine XL.m ?_
  refine XL.g ?_
  refine XL.m ?_
  refine XL.g ?_
  refine XL.indexSl (r := (i) * 2) rfl rfl (by omega) (by omega) (by omega) rfl ?_
  refine XL.g ?_
  refine XL.f ?_
  refine XL.g ?_
  refine XL.load (hv := GtL.sub (j := 1) (SbL.flat Tk.len hs rfl) rfl) rfl rfl ?_
  refine XL.g ?_
  refine XL.m ?_
  refine XL.g ?_
  refine XL.m ?_
  refine XL.g ?_
  refine XL.indexSl (r := (j) * 2) rfl rfl (by omega) (by omega) (by omega) rfl ?_
  refine XL.g ?_
  refine XL.f ?_
  refine XL.g ?_
  refine XL.load (hv := GtL.sub (j := 1) (SbL.flat Tk.len ht rfl) rfl) rfl rfl ?_
  refine XL.g ?_
  refine XL.eql_s rfl rfl rfl (fun h2 => ?_) (fun h2 => ?_)
  ·refine XL.g ?_
   refine XL.m ?_
   refine XL.g ?_
   refine XL.m ?_
   refine XL.g ?_
   refine XL.m ?_
   refine XL.g ?_
   refine XL.indexSl (r := (i) * 2) rfl rfl (by omega) (by omega) (by omega) rfl ?_
   refine XL.g ?_
   refine XL.f ?_
   refine XL.g ?_
   refine XL.load (hv := GtL.sub (j := 0) (SbL.flat Tk.len hs rfl) rfl) rfl rfl ?_
   refine XL.g ?_
   refine XL.m ?_
   refine XL.g ?_
   refine XL.m ?_
   refine XL.g ?_
   refine XL.indexSl (r := (j) * 2) rfl rfl (by omega) (by omega) (by omega) rfl ?_
   refine XL.g ?_
   refine XL.f ?_
   refine XL.g ?_
   refine XL.load (hv := GtL.sub (j := 0) (SbL.flat Tk.len ht rfl) rfl) rfl rfl ?_
   refine XL.g ?_
   refine XL.lss_s rfl rfl rfl (fun h3 => ?_) (fun h3 => ?_)
   ·refine XL.g ?_
    refine XL.pick_t rfl rfl rfl ?_
    refine XL.pick_f rfl rfl rfl ?_
    refine XL.a ?_
    refine XL.nilq_end ?_
    refine Jp.then_normal ?_
    refine SP.ret ?_
    refine Jp.go (Pk.drop (Γ1 := [TkN (.slice (some ⟨a, 0, none⟩) n cap) n ts]) (by repeat' constructor)) (Jp.end1 (.inr rfl) rfl rfl ⟨?_, rfl⟩)
    first | exact bt (by unfold ltT; omega) | exact bf (by unfold ltT; omega)
   ·refine XL.g ?_
    refine XL.pick_t rfl rfl rfl ?_
    refine XL.pick_f rfl rfl rfl ?_
    refine XL.a ?_
    refine XL.nilq_end ?_
    refine Jp.then_normal ?_
    refine SP.ret ?_
    refine Jp.go (Pk.drop (Γ1 := [TkN (.slice (some ⟨a, 0, none⟩) n cap) n ts]) (by repeat' constructor)) (Jp.end1 (.inr rfl) rfl rfl ⟨?_, rfl⟩)
    first | exact bt (by unfold ltT; omega) | exact bf (by unfold ltT; omega)
  ·refine XL.g ?_
   refine XL.m ?_
   refine XL.k ?_
   refine XL.k ?_
   refine XL.k ?_
   refine XL.k ?_
   refine XL.k ?_
   refine XL.k ?_
   refine XL.k ?_
   refine XL.k ?_
   refine XL.k ?_
   refine XL.k ?_
   refine XL.k ?_
   refine XL.g ?_
   refine XL.pick_f rfl rfl rfl ?_
   refine XL.pick_f rfl rfl rfl ?_
   refine XL.a ?_
   refine XL.nilq_end ?_
   refine Jp.then_normal ?_
   refine SP.ret ?_
   refine Jp.go (Pk.drop (Γ1 := [TkN (.slice (some ⟨a, 0, none⟩) n cap) n ts]) (by repeat' constructor)) (Jp.end1 (.inr rfl) rfl rfl ⟨?_, rfl⟩)
   first | exact bt (by unfold ltT; omega) | exact bf (by unfold ltT; omega)
theorem c226 (b a cap n i j : Nat) (ws : List Int) (hw : ws.length = 4096) (ts : List Tk) (hl : ts.length = n) (hrg : RngT ts) (ti tj : Tk) (hgi : ts[i]? = some ti) (hgj : ts[j]? = some tj) (hn : n ≤ 100000) : Tri Tryz.prog 226 [.pointer (some ⟨b, 0, none⟩), .int .i64 (i : Int), .int .i64 (j : Int)] [QB b (.slice (some ⟨a, 0, none⟩) n cap) ws, TkN (.slice (some ⟨a, 0, none⟩) n cap) n ts] (fun r Γ' => r = .tuple #[] ∧ ∃ ws' : List Int, ws'.length = 4096 ∧ Γ' = [QB b (.slice (some ⟨a, 0, none⟩) n cap) ws', TkN (.slice (some ⟨a, 0, none⟩) n cap) n (((ts.set i tj).set j ti))]) := by
 refine Pcalls (n := 47) Tryz.func226 rfl rfl rfl fun W0 H0 => ?_
 have hi := (List.getElem?_eq_some_iff.1 hgi).1
 have hj := (List.getElem?_eq_some_iff.1 hgj).1
 refine SP.r2 ?_
 refine XL.m ?_
 refine XL.nilCheck rfl rfl ?_
 refine XL.f ?_
 refine XL.l ?_
 refine XL.a ?_
 refine XL.n2 ?_
 refine SP.cut (X := Unit) (fun _ => [(0, .pointer (some ⟨b, 0, none⟩)), (1, .int .i64 (i : Int)), (2, .int .i64 (j : Int)), (6, .slice (some ⟨a, 0, none⟩) n cap)]) (fun _ => [QB b (.slice (some ⟨a, 0, none⟩) n cap) ws, TkN (.slice (some ⟨a, 0, none⟩) n cap) n (((ts.set i tj).set j ti))]) (fun _ => True) ?_ ?_
 ·refine SP.any (m := 16) Tryz.fol rfl ?_
  refine XA.tk (i := 0) rfl rfl rfl (fun _ _ _ => XL.move rfl rfl) ?_
  refine XA.tk (i := 1) rfl rfl rfl (fun _ _ _ => XL.move rfl rfl) ?_
  refine XA.tk (i := 2) rfl rfl rfl (fun _ _ _ => XL.move rfl rfl) ?_
  refine XA.tk (i := 3) rfl rfl rfl (fun _ _ _ => XL.move rfl rfl) ?_
  refine XA.tk (i := 4) rfl rfl rfl (fun _ _ _ => XL.move rfl rfl) ?_
  refine XA.tk (i := 5) rfl rfl rfl (fun _ _ _ => XL.move rfl rfl) ?_
  refine XA.tk (i := 6) rfl rfl rfl (fun _ _ _ => XL.indexSl (r := (j) * 2) rfl rfl (by omega) (by omega) (by omega) rfl) ?_
  refine XA.tk (i := 8) rfl rfl rfl (fun _ _ _ => XL.move rfl rfl) ?_
  refine XA.tk (i := 9) rfl rfl rfl (fun _ _ _ => XL.move rfl rfl) ?_
  refine XA.tk (i := 10) rfl rfl rfl (fun _ _ _ => XL.indexSl (r := (i) * 2) rfl rfl (by omega) (by omega) (by omega) rfl) ?_
  refine XA.two (i := 7) (j := 11) rfl rfl (by kernel_rfl) rfl rfl ?_ ?_
  ·refine XL.loadA (hs := SbL.flat Tk.len hgj rfl) rfl rfl ?_
   refine XL.on ?_
   refine XA.o 11 ?_
   refine XL.loadA (hs := SbL.flat Tk.len hgi rfl) rfl rfl ?_
   refine XL.on ?_
   refine XA.tk (i := 12) rfl rfl rfl (fun _ _ _ => XL.indexSl (r := (i) * 2) rfl rfl (by omega) (by omega) (by omega) rfl) ?_
   refine XA.o 13 ?_
   refine XL.storeA (vs := tj.cs) (hs := StL.flat Tk.len (i := i) tj (by omega) rfl) rfl rfl rfl rfl ?_
   refine XL.on ?_
   refine XA.tk (i := 14) rfl rfl rfl (fun _ _ _ => XL.indexSl (r := (j) * 2) rfl rfl (by omega) (by omega) (by omega) rfl) ?_
   refine XA.o 15 ?_
   refine XL.storeA (vs := ti.cs) (hs := StL.flat Tk.len (l := ts.set (i) tj) (i := j) ti (by rw [List.length_set]; omega) rfl) rfl rfl rfl rfl ?_
   refine XL.on ?_
   refine XA.done (by kernel_rfl) ?_
   refine Jp.mt () trivial
  ·refine XL.loadA (hs := SbL.flat Tk.len hgi rfl) rfl rfl ?_
   refine XL.on ?_
   refine XA.o 7 ?_
   refine XL.loadA (hs := SbL.flat Tk.len hgj rfl) rfl rfl ?_
   refine XL.on ?_
   refine XA.tk (i := 12) rfl rfl rfl (fun _ _ _ => XL.indexSl (r := (i) * 2) rfl rfl (by omega) (by omega) (by omega) rfl) ?_
   refine XA.o 13 ?_
   refine XL.storeA (vs := tj.cs) (hs := StL.flat Tk.len (i := i) tj (by omega) rfl) rfl rfl rfl rfl ?_
   refine XL.on ?_
   refine XA.tk (i := 14) rfl rfl rfl (fun _ _ _ => XL.indexSl (r := (j) * 2) rfl rfl (by omega) (by omega) (by omega) rfl) ?_
   refine XA.o 15 ?_
   refine XL.storeA (vs := ti.cs) (hs := StL.flat Tk.len (l := ts.set (i) tj) (i := j) ti (by rw [List.length_set]; omega) rfl) rfl rfl rfl rfl ?_
   refine XL.on ?_
   refine XA.done (by kernel_rfl) ?_
   refine Jp.mt () trivial
 ·rintro _ _
  obtain ⟨zi, hzi, _⟩ : ∃ z, ((ts.set i tj).set j ti)[i]? = some z ∧ True := (set_get hgi hgj).elim fun z hz => ⟨z, hz.1, trivial⟩
  obtain ⟨zj, hzj⟩ : ∃ z, ((ts.set i tj).set j ti)[j]? = some z := ⟨ti, by rw [List.getElem?_set_self (by rw [List.length_set]; omega)]⟩
  have hrz := swap_rng hrg hgi hgj
  have hri := hrz zi (List.mem_of_getElem? hzi)
  have hrj := hrz zj (List.mem_of_getElem? hzj)
  refine SP.seq ?_
  refine SP.tail 11 Tryz.fol (by kernel_rfl) ?_
  refine XL.m ?_
  refine XL.m ?_
  refine XL.m ?_
  refine XL.indexSl (r := (i) * 2) rfl rfl (by omega) (by omega) (by omega) rfl ?_
  refine XL.f ?_
  refine XL.load (hv := GtL.sub (j := 0) (SbL.flat Tk.len hzi rfl) rfl) rfl rfl ?_
  refine XL.m ?_
  refine XL.add_i64 rfl rfl (by omega) (by omega) rfl ?_
  refine XL.nilCheck rfl rfl ?_
  refine XL.f ?_
  refine XL.indexArr (r := 1 + zi.i.toNat) rfl rfl hri.1 hri.2 (by omega) rfl ?_
  refine XL.nilq_tail ?_
  refine XL.store (hs := QC.st _ (ws := ws) (by simp [hw]) (i := zi.i.toNat) (by omega) _) rfl rfl rfl ?_
  refine XL.n2 ?_
  refine SP.tail 11 Tryz.fol (by kernel_rfl) ?_
  refine XL.m ?_
  refine XL.m ?_
  refine XL.m ?_
  refine XL.indexSl (r := (j) * 2) rfl rfl (by omega) (by omega) (by omega) rfl ?_
  refine XL.f ?_
  refine XL.load (hv := GtL.sub (j := 0) (SbL.flat Tk.len hzj rfl) rfl) rfl rfl ?_
  refine XL.m ?_
  refine XL.add_i64 rfl rfl (by omega) (by omega) rfl ?_
  refine XL.nilCheck rfl rfl ?_
  refine XL.f ?_
  refine XL.indexArr (r := 1 + zj.i.toNat) rfl rfl hrj.1 hrj.2 (by omega) rfl ?_
  refine XL.nilq_tail ?_
  refine XL.store (hs := QC.st _ (ws := (ws.set zi.i.toNat ((i : Int) + 1))) (by simp [hw]) (i := zj.i.toNat) (by omega) _) rfl rfl rfl ?_
  refine XL.nil ?_
  exact Jp.go (Pk.drop (Γ1 := [QB b (.slice (some ⟨a, 0, none⟩) n cap) ((ws.set zi.i.toNat ((i : Int) + 1)).set zj.i.toNat ((j : Int) + 1)), TkN (.slice (some ⟨a, 0, none⟩) n cap) n (((ts.set i tj).set j ti))]) (by repeat' constructor)) (Jp.end0 (.inl rfl) rfl ⟨rfl, _, by simp [hw], rfl⟩)
end Go.Proofs

namespace Go.Proofs
open Go.Bk
theorem TkS_snoc (v : Value) (l : List Tk) (x : Tk) : Sl' 103 2 v (l.length + 1) (l.flatMap Tk.cs ++ x.cs) = TkS v (l ++ [x]) := by unfold TkS; simp
theorem c130 (b a cap n : Nat) (ws : List Int) (hw : ws.length = 4096) (ts : List Tk) (hl : ts.length = n) (hrg : RngT ts) (hn : n ≤ 100000) (j0 : Nat) (hj0 : j0 < n) : Tri Tryz.prog 130 [.iface 197 (.pointer (some ⟨b, 0, none⟩)), .int .i64 (j0 : Int)] [QB b (.slice (some ⟨a, 0, none⟩) n cap) ws, TkN (.slice (some ⟨a, 0, none⟩) n cap) n (ts)] (fun r Γ' => r = .tuple #[] ∧ ∃ (ws' : List Int) (ts' : List Tk), ws'.length = 4096 ∧ ts'.length = n ∧ ts'.Perm ts ∧ Γ' = [QB b (.slice (some ⟨a, 0, none⟩) n cap) ws', TkN (.slice (some ⟨a, 0, none⟩) n cap) n (ts')]) := by
 refine Pcalls (n := 23) Tryz.func130 rfl rfl rfl fun W0 H0 => ?_
 refine SP.block ?_
 refine SP.loop (X := (Nat × List Int) × List Tk) (fun w => [(0, .iface 197 (.pointer (some ⟨b, 0, none⟩))), (1, .int .i64 (w.1.1 : Int))]) (fun w => [QB b (.slice (some ⟨a, 0, none⟩) n cap) w.1.2, TkN (.slice (some ⟨a, 0, none⟩) n cap) n (w.2)]) (fun w => w.1.1 < n ∧ w.1.2.length = 4096 ∧ w.2.length = n ∧ w.2.Perm ts) (fun w => w.1.1) ((j0, ws), ts) ⟨hj0, hw, hl, .refl _⟩ (by repeat' constructor) (Pk.drop (by repeat' constructor)) ?_
 rintro ⟨⟨j, ws1⟩, us⟩ ⟨hj, hw1, hus, hpu⟩
 dsimp only at *
 obtain ⟨tj, hgj⟩ : ∃ t, us[j]? = some t := ⟨_, List.getElem?_eq_getElem (show j < us.length by omega)⟩
 obtain ⟨ti, hgi⟩ : ∃ t, us[(j - 1) / 2]? = some t := ⟨_, List.getElem?_eq_getElem (show (j - 1) / 2 < us.length by omega)⟩
 have hru : RngT us := hrg.perm hpu
 refine SP.block ?_
 refine SP.r2 ?_
 refine XL.m ?_
 refine XL.sub_i64 rfl rfl (by omega) (by omega) rfl ?_
 refine XL.quo (r := (((j - 1) / 2 : Nat) : Int)) rfl rfl (by decide) (quoUp j (by omega)) rfl ?_
 refine XL.a ?_
 refine XL.n5 ?_
 refine SP.r2 ?_
 refine XL.m ?_
 refine XL.m ?_
 refine XL.eql_s rfl rfl rfl (fun he => ?_) (fun he => ?_)
 ·refine XL.m ?_
  refine XL.k ?_
  refine XL.k ?_
  refine XL.k ?_
  refine XL.k ?_
  refine XL.k ?_
  refine XL.pick_t rfl rfl rfl ?_
  refine XL.n2 ?_
  refine SP.t ?_
  refine SP.exit ?_
  refine Jp.then_exit ?_
  refine Jp.block_there rfl ?_
  refine Jp.then_exit ?_
  refine Jp.block_here ?_
  exact Jp.go (Pk.drop (Γ1 := [QB b (.slice (some ⟨a, 0, none⟩) n cap) ws1, TkN (.slice (some ⟨a, 0, none⟩) n cap) n (us)]) (by repeat' constructor)) (Jp.end0 (.inl rfl) rfl ⟨rfl, ws1, us, hw1, hus, hpu, rfl⟩)
 ·refine XL.m ?_
  refine XL.g ?_
  refine XL.m ?_
  refine XL.g ?_
  refine XL.m ?_
  refine XL.g ?_
  refine XL.m ?_
  refine XL.g ?_
  refine XL.ers rfl rfl (c223 a cap n (j) ((j - 1) / 2) us hus tj ti hgj hgi hn) (by repeat' constructor) rfl (fun hls => ?_) (fun hls => ?_)
  ·refine XL.g ?_
   refine XL.not_t rfl rfl ?_
   refine XL.pick_f rfl rfl rfl ?_
   refine XL.n2 ?_
   refine SP.f ?_
   refine SP.skip ?_
   refine Jp.n4 ?_
   refine XL.m ?_
   refine XL.m ?_
   refine XL.m ?_
   refine XL.iw rfl rfl (c226 b a cap n ((j - 1) / 2) (j) ws1 hw1 us hus hru ti tj hgi hgj hn) (by repeat' constructor) rfl ?_
   rintro _ _ ⟨rfl, ws2, hws2, rfl⟩
   refine XL.app2 ?_
   refine XL.n3 ?_
   refine XL.m ?_
   refine XL.a ?_
   refine XL.nil ?_
   refine Jp.block_normal ?_
   refine Jp.rd (((j - 1) / 2, ws2), (us.set ((j - 1) / 2) tj).set j ti) ⟨by show (j - 1) / 2 < n; omega, hws2, by show ((us.set ((j - 1) / 2) tj).set j ti).length = n; rw [List.length_set, List.length_set]; exact hus, (swap_perm hgi hgj).trans hpu⟩ (by show (j - 1) / 2 < j; omega)
  ·refine XL.g ?_
   refine XL.not_f rfl rfl ?_
   refine XL.pick_f rfl rfl rfl ?_
   refine XL.n2 ?_
   refine SP.t ?_
   refine SP.exit ?_
   refine Jp.then_exit ?_
   refine Jp.block_there rfl ?_
   refine Jp.then_exit ?_
   refine Jp.block_here ?_
   exact Jp.go (Pk.drop (Γ1 := [QB b (.slice (some ⟨a, 0, none⟩) n cap) ws1, TkN (.slice (some ⟨a, 0, none⟩) n cap) n (us)]) (by repeat' constructor)) (Jp.end0 (.inl rfl) rfl ⟨rfl, ws1, us, hw1, hus, hpu, rfl⟩)
theorem c133 (b a cap n : Nat) (ws : List Int) (hw : ws.length = 4096) (ts : List Tk) (hl : ts.length = n) (hrg : RngT ts) (hn : n ≤ 100000) (k : Nat) (hk : k < n) : Tri Tryz.prog 133 [.iface 197 (.pointer (some ⟨b, 0, none⟩)), .int .i64 0, .int .i64 (k : Int)] [QB b (.slice (some ⟨a, 0, none⟩) n cap) ws, TkN (.slice (some ⟨a, 0, none⟩) n cap) n (ts)] (fun r Γ' => (∃ bb, r = .bool bb) ∧ ∃ (ws' : List Int) (ts' : List Tk), ws'.length = 4096 ∧ ts'.length = n ∧ ts'.Perm ts ∧ Γ' = [QB b (.slice (some ⟨a, 0, none⟩) n cap) ws', TkN (.slice (some ⟨a, 0, none⟩) n cap) n (ts')]) := by
 refine Pcalls (n := 48) Tryz.func133 rfl rfl rfl fun W0 H0 => ?_
 refine SP.r2 ?_
 refine XL.a ?_
 refine XL.n4 ?_
 refine XL.m ?_
 refine XL.a ?_
 refine XL.n5 ?_
 refine SP.block ?_
 refine SP.loop (X := (Nat × List Int) × List Tk) (fun w => [(0, .iface 197 (.pointer (some ⟨b, 0, none⟩))), (1, .int .i64 0), (2, .int .i64 (k : Int)), (7, .int .i64 (w.1.1 : Int))]) (fun w => [QB b (.slice (some ⟨a, 0, none⟩) n cap) w.1.2, TkN (.slice (some ⟨a, 0, none⟩) n cap) n (w.2)]) (fun w => w.1.1 ≤ k ∧ w.1.2.length = 4096 ∧ w.2.length = n ∧ w.2.Perm ts) (fun w => k - w.1.1) ((0, ws), ts) ⟨Nat.zero_le _, hw, hl, .refl _⟩ (by repeat' constructor) (Pk.drop (by repeat' constructor)) ?_
 rintro ⟨⟨i, ws1⟩, us⟩ ⟨hi, hw1, hus, hpu⟩
 dsimp only at *
 obtain ⟨ti, hgi⟩ : ∃ t, us[i]? = some t := ⟨_, List.getElem?_eq_getElem (show i < us.length by omega)⟩
 have hru : RngT us := hrg.perm hpu
 refine SP.block ?_
 refine SP.r2 ?_
 refine XL.m ?_
 refine XL.mul_i64 rfl rfl (by omega) (by omega) rfl ?_
 refine XL.add_i64 rfl rfl (by omega) (by omega) rfl ?_
 refine XL.a ?_
 refine XL.n5 ?_
 refine SP.r2 ?_
 refine XL.m ?_
 refine XL.m ?_
 refine XL.geq_s rfl rfl rfl (fun h1 => ?_) (fun h1 => ?_)
 ·refine XL.m ?_
  refine XL.k ?_
  refine XL.k ?_
  refine XL.pick_t rfl rfl rfl ?_
  refine XL.n2 ?_
  refine SP.t ?_
  refine SP.exit ?_
  refine Jp.then_exit ?_
  refine Jp.block_there rfl ?_
  refine Jp.then_exit ?_
  refine Jp.block_here ?_
  refine Jp.n4 ?_
  refine XL.m ?_
  refine XL.m ?_
  refine XL.gtr_s rfl rfl rfl (fun hz => ?_) (fun hz => ?_)
  ·refine XL.a ?_
   refine XL.n2 ?_
   refine SP.ret ?_
   exact Jp.go (Pk.drop (Γ1 := [QB b (.slice (some ⟨a, 0, none⟩) n cap) ws1, TkN (.slice (some ⟨a, 0, none⟩) n cap) n (us)]) (by repeat' constructor)) (Jp.end1 (.inr rfl) rfl rfl ⟨⟨_, rfl⟩, ws1, us, hw1, hus, hpu, rfl⟩)
  ·refine XL.a ?_
   refine XL.n2 ?_
   refine SP.ret ?_
   exact Jp.go (Pk.drop (Γ1 := [QB b (.slice (some ⟨a, 0, none⟩) n cap) ws1, TkN (.slice (some ⟨a, 0, none⟩) n cap) n (us)]) (by repeat' constructor)) (Jp.end1 (.inr rfl) rfl rfl ⟨⟨_, rfl⟩, ws1, us, hw1, hus, hpu, rfl⟩)
 ·refine XL.m ?_
  refine XL.g ?_
  refine XL.m ?_
  refine XL.g ?_
  refine XL.lss_s rfl rfl rfl (fun h1b => ?_) (fun h1b => ?_)
  ·refine XL.pick_f rfl rfl rfl ?_
   refine XL.n2 ?_
   refine SP.t ?_
   refine SP.exit ?_
   refine Jp.then_exit ?_
   refine Jp.block_there rfl ?_
   refine Jp.then_exit ?_
   refine Jp.block_here ?_
   refine Jp.n4 ?_
   refine XL.m ?_
   refine XL.m ?_
   refine XL.gtr_s rfl rfl rfl (fun hz => ?_) (fun hz => ?_)
   ·refine XL.a ?_
    refine XL.n2 ?_
    refine SP.ret ?_
    exact Jp.go (Pk.drop (Γ1 := [QB b (.slice (some ⟨a, 0, none⟩) n cap) ws1, TkN (.slice (some ⟨a, 0, none⟩) n cap) n (us)]) (by repeat' constructor)) (Jp.end1 (.inr rfl) rfl rfl ⟨⟨_, rfl⟩, ws1, us, hw1, hus, hpu, rfl⟩)
   ·refine XL.a ?_
    refine XL.n2 ?_
    refine SP.ret ?_
    exact Jp.go (Pk.drop (Γ1 := [QB b (.slice (some ⟨a, 0, none⟩) n cap) ws1, TkN (.slice (some ⟨a, 0, none⟩) n cap) n (us)]) (by repeat' constructor)) (Jp.end1 (.inr rfl) rfl rfl ⟨⟨_, rfl⟩, ws1, us, hw1, hus, hpu, rfl⟩)
  ·refine XL.pick_f rfl rfl rfl ?_
   refine XL.n2 ?_
   refine SP.f ?_
   refine SP.skip ?_
   refine Jp.n4 ?_
   refine XL.m ?_
   refine XL.a ?_
   refine XL.n5 ?_
   refine SP.r2 ?_
   refine XL.m ?_
   refine XL.add_i64 rfl rfl (by omega) (by omega) rfl ?_
   refine XL.a ?_
   refine XL.n4 ?_
   refine XL.m ?_
   refine XL.m ?_
   refine XL.lss_s rfl rfl rfl (fun h2 => ?_) (fun h2 => ?_)
   ·obtain ⟨t2, hg2⟩ : ∃ t, us[2 * i + 2]? = some t := ⟨_, List.getElem?_eq_getElem (show 2 * i + 2 < us.length by omega)⟩
    obtain ⟨t1, hg1⟩ : ∃ t, us[2 * i + 1]? = some t := ⟨_, List.getElem?_eq_getElem (show 2 * i + 1 < us.length by omega)⟩
    rw [show 2 * (i : Int) + 1 + 1 = ((2 * i + 2 : Nat) : Int) by omega, show 2 * (i : Int) + 1 = ((2 * i + 1 : Nat) : Int) by omega]
    refine XL.m ?_
    refine XL.g ?_
    refine XL.m ?_
    refine XL.g ?_
    refine XL.m ?_
    refine XL.g ?_
    refine XL.m ?_
    refine XL.g ?_
    refine XL.ers rfl rfl (c223 a cap n (2 * i + 2) (2 * i + 1) us hus t2 t1 hg2 hg1 hn) (by repeat' constructor) rfl (fun hls => ?_) (fun hls => ?_)
    ·refine XL.pick_t rfl rfl rfl ?_
     refine XL.n2 ?_
     refine SP.t ?_
     refine SP.region ?_
     refine XL.m ?_
     refine XL.a ?_
     refine XL.n5 ?_
     refine SP.r2 ?_
     refine XL.m ?_
     refine XL.m ?_
     refine XL.m ?_
     obtain ⟨tk, hgk⟩ : ∃ t, us[2 * i + 2]? = some t := ⟨_, List.getElem?_eq_getElem (show 2 * i + 2 < us.length by omega)⟩
     refine XL.ers rfl rfl (c223 a cap n (2 * i + 2) (i) us hus tk ti hgk hgi hn) (by repeat' constructor) rfl (fun hls2 => ?_) (fun hls2 => ?_)
     ·refine XL.not_t rfl rfl ?_
      refine XL.n2 ?_
      refine SP.f ?_
      refine SP.skip ?_
      refine Jp.n4 ?_
      refine XL.m ?_
      refine XL.m ?_
      refine XL.m ?_
      refine XL.iw rfl rfl (c226 b a cap n (i) (2 * i + 2) ws1 hw1 us hus hru ti tk hgi hgk hn) (by repeat' constructor) rfl ?_
      rintro _ _ ⟨rfl, ws2, hws2, rfl⟩
      refine XL.app2 ?_
      refine XL.n3 ?_
      refine XL.m ?_
      refine XL.a ?_
      refine XL.nil ?_
      refine Jp.block_normal ?_
      refine Jp.rd ((2 * i + 2, ws2), (us.set i tk).set (2 * i + 2) ti) ⟨by show 2 * i + 2 ≤ k; omega, hws2, by show ((us.set i tk).set (2 * i + 2) ti).length = n; rw [List.length_set, List.length_set]; exact hus, (swap_perm hgi hgk).trans hpu⟩ (by show k - (2 * i + 2) < k - i; omega)
     ·refine XL.not_f rfl rfl ?_
      refine XL.n2 ?_
      refine SP.t ?_
      refine SP.exit ?_
      refine Jp.then_exit ?_
      refine Jp.block_there rfl ?_
      refine Jp.then_exit ?_
      refine Jp.block_here ?_
      refine Jp.n4 ?_
      refine XL.m ?_
      refine XL.m ?_
      refine XL.gtr_s rfl rfl rfl (fun hz => ?_) (fun hz => ?_)
      ·refine XL.a ?_
       refine XL.n2 ?_
       refine SP.ret ?_
       exact Jp.go (Pk.drop (Γ1 := [QB b (.slice (some ⟨a, 0, none⟩) n cap) ws1, TkN (.slice (some ⟨a, 0, none⟩) n cap) n (us)]) (by repeat' constructor)) (Jp.end1 (.inr rfl) rfl rfl ⟨⟨_, rfl⟩, ws1, us, hw1, hus, hpu, rfl⟩)
      ·refine XL.a ?_
       refine XL.n2 ?_
       refine SP.ret ?_
       exact Jp.go (Pk.drop (Γ1 := [QB b (.slice (some ⟨a, 0, none⟩) n cap) ws1, TkN (.slice (some ⟨a, 0, none⟩) n cap) n (us)]) (by repeat' constructor)) (Jp.end1 (.inr rfl) rfl rfl ⟨⟨_, rfl⟩, ws1, us, hw1, hus, hpu, rfl⟩)
    ·refine XL.pick_t rfl rfl rfl ?_
     refine XL.n2 ?_
     refine SP.f ?_
     refine SP.skip ?_
     refine Jp.then_normal ?_
     refine SP.seq ?_
     refine SP.r2 ?_
     refine XL.m ?_
     refine XL.m ?_
     refine XL.m ?_
     obtain ⟨tk, hgk⟩ : ∃ t, us[2 * i + 1]? = some t := ⟨_, List.getElem?_eq_getElem (show 2 * i + 1 < us.length by omega)⟩
     refine XL.ers rfl rfl (c223 a cap n (2 * i + 1) (i) us hus tk ti hgk hgi hn) (by repeat' constructor) rfl (fun hls2 => ?_) (fun hls2 => ?_)
     ·refine XL.not_t rfl rfl ?_
      refine XL.n2 ?_
      refine SP.f ?_
      refine SP.skip ?_
      refine Jp.n4 ?_
      refine XL.m ?_
      refine XL.m ?_
      refine XL.m ?_
      refine XL.iw rfl rfl (c226 b a cap n (i) (2 * i + 1) ws1 hw1 us hus hru ti tk hgi hgk hn) (by repeat' constructor) rfl ?_
      rintro _ _ ⟨rfl, ws2, hws2, rfl⟩
      refine XL.app2 ?_
      refine XL.n3 ?_
      refine XL.m ?_
      refine XL.a ?_
      refine XL.nil ?_
      refine Jp.block_normal ?_
      refine Jp.rd ((2 * i + 1, ws2), (us.set i tk).set (2 * i + 1) ti) ⟨by show 2 * i + 1 ≤ k; omega, hws2, by show ((us.set i tk).set (2 * i + 1) ti).length = n; rw [List.length_set, List.length_set]; exact hus, (swap_perm hgi hgk).trans hpu⟩ (by show k - (2 * i + 1) < k - i; omega)
     ·refine XL.not_f rfl rfl ?_
      refine XL.n2 ?_
      refine SP.t ?_
      refine SP.exit ?_
      refine Jp.then_exit ?_
      refine Jp.block_there rfl ?_
      refine Jp.then_exit ?_
      refine Jp.block_here ?_
      refine Jp.n4 ?_
      refine XL.m ?_
      refine XL.m ?_
      refine XL.gtr_s rfl rfl rfl (fun hz => ?_) (fun hz => ?_)
      ·refine XL.a ?_
       refine XL.n2 ?_
       refine SP.ret ?_
       exact Jp.go (Pk.drop (Γ1 := [QB b (.slice (some ⟨a, 0, none⟩) n cap) ws1, TkN (.slice (some ⟨a, 0, none⟩) n cap) n (us)]) (by repeat' constructor)) (Jp.end1 (.inr rfl) rfl rfl ⟨⟨_, rfl⟩, ws1, us, hw1, hus, hpu, rfl⟩)
      ·refine XL.a ?_
       refine XL.n2 ?_
       refine SP.ret ?_
       exact Jp.go (Pk.drop (Γ1 := [QB b (.slice (some ⟨a, 0, none⟩) n cap) ws1, TkN (.slice (some ⟨a, 0, none⟩) n cap) n (us)]) (by repeat' constructor)) (Jp.end1 (.inr rfl) rfl rfl ⟨⟨_, rfl⟩, ws1, us, hw1, hus, hpu, rfl⟩)
   ·rw [show 2 * (i : Int) + 1 = ((2 * i + 1 : Nat) : Int) by omega]
    refine XL.m ?_
    refine XL.k ?_
    refine XL.k ?_
    refine XL.k ?_
    refine XL.k ?_
    refine XL.pick_f rfl rfl rfl ?_
    refine XL.n2 ?_
    refine SP.f ?_
    refine SP.skip ?_
    refine Jp.then_normal ?_
    refine SP.seq ?_
    refine SP.r2 ?_
    refine XL.m ?_
    refine XL.m ?_
    refine XL.m ?_
    obtain ⟨tk, hgk⟩ : ∃ t, us[2 * i + 1]? = some t := ⟨_, List.getElem?_eq_getElem (show 2 * i + 1 < us.length by omega)⟩
    refine XL.ers rfl rfl (c223 a cap n (2 * i + 1) (i) us hus tk ti hgk hgi hn) (by repeat' constructor) rfl (fun hls2 => ?_) (fun hls2 => ?_)
    ·refine XL.not_t rfl rfl ?_
     refine XL.n2 ?_
     refine SP.f ?_
     refine SP.skip ?_
     refine Jp.n4 ?_
     refine XL.m ?_
     refine XL.m ?_
     refine XL.m ?_
     refine XL.iw rfl rfl (c226 b a cap n (i) (2 * i + 1) ws1 hw1 us hus hru ti tk hgi hgk hn) (by repeat' constructor) rfl ?_
     rintro _ _ ⟨rfl, ws2, hws2, rfl⟩
     refine XL.app2 ?_
     refine XL.n3 ?_
     refine XL.m ?_
     refine XL.a ?_
     refine XL.nil ?_
     refine Jp.block_normal ?_
     refine Jp.rd ((2 * i + 1, ws2), (us.set i tk).set (2 * i + 1) ti) ⟨by show 2 * i + 1 ≤ k; omega, hws2, by show ((us.set i tk).set (2 * i + 1) ti).length = n; rw [List.length_set, List.length_set]; exact hus, (swap_perm hgi hgk).trans hpu⟩ (by show k - (2 * i + 1) < k - i; omega)
    ·refine XL.not_f rfl rfl ?_
     refine XL.n2 ?_
     refine SP.t ?_
     refine SP.exit ?_
     refine Jp.then_exit ?_
     refine Jp.block_there rfl ?_
     refine Jp.then_exit ?_
     refine Jp.block_here ?_
     refine Jp.n4 ?_
     refine XL.m ?_
     refine XL.m ?_
     refine XL.gtr_s rfl rfl rfl (fun hz => ?_) (fun hz => ?_)
     ·refine XL.a ?_
      refine XL.n2 ?_
      refine SP.ret ?_
      exact Jp.go (Pk.drop (Γ1 := [QB b (.slice (some ⟨a, 0, none⟩) n cap) ws1, TkN (.slice (some ⟨a, 0, none⟩) n cap) n (us)]) (by repeat' constructor)) (Jp.end1 (.inr rfl) rfl rfl ⟨⟨_, rfl⟩, ws1, us, hw1, hus, hpu, rfl⟩)
     ·refine XL.a ?_
      refine XL.n2 ?_
      refine SP.ret ?_
      exact Jp.go (Pk.drop (Γ1 := [QB b (.slice (some ⟨a, 0, none⟩) n cap) ws1, TkN (.slice (some ⟨a, 0, none⟩) n cap) n (us)]) (by repeat' constructor)) (Jp.end1 (.inr rfl) rfl rfl ⟨⟨_, rfl⟩, ws1, us, hw1, hus, hpu, rfl⟩)
theorem c225 (b : Nat) (v : Value) (ws : List Int) (hw : ws.length = 4096) (ts : List Tk) (hn : ts.length ≤ 90000) (t : Tk) (ht : 0 ≤ t.i ∧ t.i < 4096) : Tri Tryz.prog 225 [.pointer (some ⟨b, 0, none⟩), .iface 103 (.agg #[.int .i64 t.i, .int .i64 t.due])] [QB b v ws, TkS v ts] (fun r Γ' => r = .tuple #[] ∧ ∃ (v' : Value) (ws' : List Int), ws'.length = 4096 ∧ Γ' = [QB b v' ws', TkS v' (ts ++ [t])]) := by
 refine Pcalls (n := 28) Tryz.func225 rfl rfl rfl fun W0 H0 => ?_
 refine SP.r2 ?_
 refine XL.m ?_
 refine XL.assertT rfl Tryz.underlying103 rfl rfl ?_
 refine XL.alloc (by rfl) (fun b1 => ?_)
 refine XL.sA ?_
 refine XL.n2 ?_
 refine SP.cut (X := Option Addr × Nat) (fun w => [(0, .pointer (some ⟨b, 0, none⟩)), (4, .pointer (some ⟨b1, 0, none⟩))]) (fun w => [QB b (.slice w.1 (ts ++ [t]).length w.2) ws, TkS (.slice w.1 (ts ++ [t]).length w.2) (ts ++ [t]), pt b1 (cel t.cs 103)]) (fun w => True) ?_ ?_
 ·refine SP.any (m := 11) Tryz.fol rfl ?_
  refine XA.tk (i := 0) rfl rfl rfl (fun _ _ _ => XL.move rfl rfl) ?_
  refine XA.tk (i := 1) rfl rfl rfl (fun _ _ _ => XL.move rfl rfl) ?_
  refine XA.two (i := 2) (j := 5) rfl rfl (by kernel_rfl) rfl rfl ?_ ?_
  ·refine XL.nilCheck rfl rfl ?_
   refine XL.on ?_
   refine XA.tk (i := 3) rfl rfl rfl (fun _ _ _ => XL.fieldAddr (by rfl) (by rfl)) ?_
   refine XA.two (i := 4) (j := 5) rfl rfl (by kernel_rfl) rfl rfl ?_ ?_
   ·refine XL.l ?_
    refine XL.on ?_
    refine XA.o 5 ?_
    refine XL.lA ?_
    refine XL.on ?_
    refine XA.o 6 ?_
    refine XL.buildSlice (by rfl) (by rfl) (by rfl) (by decide) rfl (fun b3 => ?_)
    refine XL.on ?_
    refine XA.o 7 ?_
    refine XL.append (k := 2) (z := [.int .i64 0, .int .i64 0]) (bt := 16) (xs := ts.flatMap Tk.cs) (ys := Tk.cs t) (m := ts.length) (m2 := 1) rfl rfl ⟨_, Tryz.underlying189⟩ (by repeat' constructor) rfl rfl rfl (by omega) rfl rfl (fun v2 => ?_)
    rw [TkS_snoc v2 ts t]
    refine XL.know (Rm.know (Rm.here _ _) (fun _ hq => Sl'.len hq)) ?_
    rintro ⟨a2, c2, rfl, _⟩
    refine XL.on ?_
    refine XA.o 8 ?_
    refine XL.nilCheck rfl rfl ?_
    refine XL.on ?_
    refine XA.tk (i := 9) rfl rfl rfl (fun _ _ _ => XL.fieldAddr (by rfl) (by rfl)) ?_
    refine XA.o 10 ?_
    refine XL.store (by rfl) (by rfl) (by rfl) ?_
    refine XL.on ?_
    refine XA.done (by kernel_rfl) ?_
    refine Jp.mt (a2, c2) trivial
   ·refine XL.lA ?_
    refine XL.on ?_
    refine XA.two (i := 4) (j := 6) rfl rfl (by kernel_rfl) rfl rfl ?_ ?_
    ·refine XL.l ?_
     refine XL.on ?_
     refine XA.o 6 ?_
     refine XL.buildSlice (by rfl) (by rfl) (by rfl) (by decide) rfl (fun b3 => ?_)
     refine XL.on ?_
     refine XA.o 7 ?_
     refine XL.append (k := 2) (z := [.int .i64 0, .int .i64 0]) (bt := 16) (xs := ts.flatMap Tk.cs) (ys := Tk.cs t) (m := ts.length) (m2 := 1) rfl rfl ⟨_, Tryz.underlying189⟩ (by repeat' constructor) rfl rfl rfl (by omega) rfl rfl (fun v2 => ?_)
     rw [TkS_snoc v2 ts t]
     refine XL.know (Rm.know (Rm.here _ _) (fun _ hq => Sl'.len hq)) ?_
     rintro ⟨a2, c2, rfl, _⟩
     refine XL.on ?_
     refine XA.o 8 ?_
     refine XL.nilCheck rfl rfl ?_
     refine XL.on ?_
     refine XA.tk (i := 9) rfl rfl rfl (fun _ _ _ => XL.fieldAddr (by rfl) (by rfl)) ?_
     refine XA.o 10 ?_
     refine XL.store (by rfl) (by rfl) (by rfl) ?_
     refine XL.on ?_
     refine XA.done (by kernel_rfl) ?_
     refine Jp.mt (a2, c2) trivial
    ·refine XL.buildSlice (by rfl) (by rfl) (by rfl) (by decide) rfl (fun b3 => ?_)
     refine XL.on ?_
     refine XA.o 4 ?_
     refine XL.l ?_
     refine XL.on ?_
     refine XA.o 7 ?_
     refine XL.append (k := 2) (z := [.int .i64 0, .int .i64 0]) (bt := 16) (xs := ts.flatMap Tk.cs) (ys := Tk.cs t) (m := ts.length) (m2 := 1) rfl rfl ⟨_, Tryz.underlying189⟩ (by repeat' constructor) rfl rfl rfl (by omega) rfl rfl (fun v2 => ?_)
     rw [TkS_snoc v2 ts t]
     refine XL.know (Rm.know (Rm.here _ _) (fun _ hq => Sl'.len hq)) ?_
     rintro ⟨a2, c2, rfl, _⟩
     refine XL.on ?_
     refine XA.o 8 ?_
     refine XL.nilCheck rfl rfl ?_
     refine XL.on ?_
     refine XA.tk (i := 9) rfl rfl rfl (fun _ _ _ => XL.fieldAddr (by rfl) (by rfl)) ?_
     refine XA.o 10 ?_
     refine XL.store (by rfl) (by rfl) (by rfl) ?_
     refine XL.on ?_
     refine XA.done (by kernel_rfl) ?_
     refine Jp.mt (a2, c2) trivial
  ·refine XL.lA ?_
   refine XL.on ?_
   refine XA.two (i := 2) (j := 6) rfl rfl (by kernel_rfl) rfl rfl ?_ ?_
   ·refine XL.nilCheck rfl rfl ?_
    refine XL.on ?_
    refine XA.tk (i := 3) rfl rfl rfl (fun _ _ _ => XL.fieldAddr (by rfl) (by rfl)) ?_
    refine XA.two (i := 4) (j := 6) rfl rfl (by kernel_rfl) rfl rfl ?_ ?_
    ·refine XL.l ?_
     refine XL.on ?_
     refine XA.o 6 ?_
     refine XL.buildSlice (by rfl) (by rfl) (by rfl) (by decide) rfl (fun b3 => ?_)
     refine XL.on ?_
     refine XA.o 7 ?_
     refine XL.append (k := 2) (z := [.int .i64 0, .int .i64 0]) (bt := 16) (xs := ts.flatMap Tk.cs) (ys := Tk.cs t) (m := ts.length) (m2 := 1) rfl rfl ⟨_, Tryz.underlying189⟩ (by repeat' constructor) rfl rfl rfl (by omega) rfl rfl (fun v2 => ?_)
     rw [TkS_snoc v2 ts t]
     refine XL.know (Rm.know (Rm.here _ _) (fun _ hq => Sl'.len hq)) ?_
     rintro ⟨a2, c2, rfl, _⟩
     refine XL.on ?_
     refine XA.o 8 ?_
     refine XL.nilCheck rfl rfl ?_
     refine XL.on ?_
     refine XA.tk (i := 9) rfl rfl rfl (fun _ _ _ => XL.fieldAddr (by rfl) (by rfl)) ?_
     refine XA.o 10 ?_
     refine XL.store (by rfl) (by rfl) (by rfl) ?_
     refine XL.on ?_
     refine XA.done (by kernel_rfl) ?_
     refine Jp.mt (a2, c2) trivial
    ·refine XL.buildSlice (by rfl) (by rfl) (by rfl) (by decide) rfl (fun b3 => ?_)
     refine XL.on ?_
     refine XA.o 4 ?_
     refine XL.l ?_
     refine XL.on ?_
     refine XA.o 7 ?_
     refine XL.append (k := 2) (z := [.int .i64 0, .int .i64 0]) (bt := 16) (xs := ts.flatMap Tk.cs) (ys := Tk.cs t) (m := ts.length) (m2 := 1) rfl rfl ⟨_, Tryz.underlying189⟩ (by repeat' constructor) rfl rfl rfl (by omega) rfl rfl (fun v2 => ?_)
     rw [TkS_snoc v2 ts t]
     refine XL.know (Rm.know (Rm.here _ _) (fun _ hq => Sl'.len hq)) ?_
     rintro ⟨a2, c2, rfl, _⟩
     refine XL.on ?_
     refine XA.o 8 ?_
     refine XL.nilCheck rfl rfl ?_
     refine XL.on ?_
     refine XA.tk (i := 9) rfl rfl rfl (fun _ _ _ => XL.fieldAddr (by rfl) (by rfl)) ?_
     refine XA.o 10 ?_
     refine XL.store (by rfl) (by rfl) (by rfl) ?_
     refine XL.on ?_
     refine XA.done (by kernel_rfl) ?_
     refine Jp.mt (a2, c2) trivial
   ·refine XL.buildSlice (by rfl) (by rfl) (by rfl) (by decide) rfl (fun b3 => ?_)
    refine XL.on ?_
    refine XA.o 2 ?_
    refine XL.nilCheck rfl rfl ?_
    refine XL.on ?_
    refine XA.tk (i := 3) rfl rfl rfl (fun _ _ _ => XL.fieldAddr (by rfl) (by rfl)) ?_
    refine XA.o 4 ?_
    refine XL.l ?_
    refine XL.on ?_
    refine XA.o 7 ?_
    refine XL.append (k := 2) (z := [.int .i64 0, .int .i64 0]) (bt := 16) (xs := ts.flatMap Tk.cs) (ys := Tk.cs t) (m := ts.length) (m2 := 1) rfl rfl ⟨_, Tryz.underlying189⟩ (by repeat' constructor) rfl rfl rfl (by omega) rfl rfl (fun v2 => ?_)
    rw [TkS_snoc v2 ts t]
    refine XL.know (Rm.know (Rm.here _ _) (fun _ hq => Sl'.len hq)) ?_
    rintro ⟨a2, c2, rfl, _⟩
    refine XL.on ?_
    refine XA.o 8 ?_
    refine XL.nilCheck rfl rfl ?_
    refine XL.on ?_
    refine XA.tk (i := 9) rfl rfl rfl (fun _ _ _ => XL.fieldAddr (by rfl) (by rfl)) ?_
    refine XA.o 10 ?_
    refine XL.store (by rfl) (by rfl) (by rfl) ?_
    refine XL.on ?_
    refine XA.done (by kernel_rfl) ?_
    refine Jp.mt (a2, c2) trivial
 ·rintro ⟨a2, c2⟩ _
  dsimp only at *
  refine SP.tail 11 Tryz.fol (by kernel_rfl) ?_
  refine XL.m ?_
  refine XL.f ?_
  refine XL.l ?_
  refine XL.m ?_
  refine XL.nilCheck rfl rfl ?_
  refine XL.f ?_
  refine XL.l ?_
  refine XL.cp rfl (c132 _ _ _) rfl ?_
  refine XL.nilCheck rfl rfl ?_
  refine XL.f ?_
  refine XL.indexArr (r := 1 + t.i.toNat) rfl rfl ht.1 ht.2 (by omega) rfl ?_
  refine XL.nilq_tail ?_
  refine XL.store (hs := QC.st _ hw (i := t.i.toNat) (by omega) _) rfl rfl rfl ?_
  refine XL.nil ?_
  exact Jp.go (Pk.drop (Γ1 := [QB b (.slice a2 (ts ++ [t]).length c2) (ws.set t.i.toNat ((ts ++ [t]).length : Int)), TkS (.slice a2 (ts ++ [t]).length c2) (ts ++ [t])]) (by repeat' constructor)) (Jp.end0 (.inl rfl) rfl ⟨rfl, _, _, by simp [hw], rfl⟩)
theorem c224 (b a cap k : Nat) (ws : List Int) (hw : ws.length = 4096) (ts : List Tk) (hl : ts.length = k + 1) (hc : k + 1 ≤ cap) (hn : k ≤ 90000) (t : Tk) (hg : ts[k]? = some t) (ht : 0 ≤ t.i ∧ t.i < 4096) : Tri Tryz.prog 224 [.pointer (some ⟨b, 0, none⟩)] [QB b (.slice (some ⟨a, 0, none⟩) (k + 1) cap) ws, TkN (.slice (some ⟨a, 0, none⟩) (k + 1) cap) (k + 1) ts] (fun r Γ' => r = .iface 103 (.agg #[.int .i64 t.i, .int .i64 t.due]) ∧ ∃ ws' : List Int, ws'.length = 4096 ∧ Γ' = [QB b (.slice (some ⟨a, 0, none⟩) k cap) ws', TkN (.slice (some ⟨a, 0, none⟩) k cap) k (ts.take k)]) := by
 refine Pcalls (n := 35) Tryz.func224 rfl rfl rfl fun W0 H0 => ?_
 refine SP.r2 ?_
 refine XL.a ?_
 refine XL.n4 ?_
 refine XL.m ?_
 refine XL.nilCheck rfl rfl ?_
 refine XL.f ?_
 refine XL.l ?_
 refine XL.cp rfl (c132 _ _ _) rfl ?_
 refine XL.sub_i64 rfl rfl (by omega) (by omega) rfl ?_
 refine XL.a ?_
 refine XL.n4 ?_
 refine XL.m ?_
 refine XL.nilCheck rfl rfl ?_
 refine XL.f ?_
 refine XL.l ?_
 refine XL.m ?_
 refine XL.indexSl (r := k * 2) rfl rfl (by omega) (by omega) (by omega) rfl ?_
 refine XL.loadA (hs := SbL.flat Tk.len hg rfl) rfl rfl ?_
 refine XL.alloc (by rfl) (fun b1 => ?_)
 refine XL.sA ?_
 refine XL.n4 ?_
 refine XL.m ?_
 refine XL.m ?_
 refine XL.nilCheck rfl rfl ?_
 refine XL.f ?_
 refine XL.l ?_
 refine XL.m ?_
 refine XL.slice (l := 0) (h := k) (r := 0) (mm := k) (cc := cap) rfl rfl ⟨_, rfl, by omega⟩ (by omega) (by omega) (by split <;> rfl) rfl rfl rfl ?_
 refine XL.nilCheck rfl rfl ?_
 refine XL.f ?_
 refine XL.store (by rfl) (by rfl) (by rfl) ?_
 refine XL.n5 ?_
 refine SP.tail 6 Tryz.fol (by kernel_rfl) ?_
 refine XL.m ?_
 refine XL.f ?_
 refine XL.l ?_
 refine XL.nilCheck rfl rfl ?_
 refine XL.f ?_
 refine XL.indexArr (r := 1 + t.i.toNat) rfl rfl ht.1 ht.2 (by omega) rfl ?_
 refine XL.nilq_tail ?_
 refine XL.store (hs := QC.st _ hw (i := t.i.toNat) (by omega) 0) rfl rfl rfl ?_
 refine XL.n4 ?_
 refine XL.lA ?_
 refine XL.makeIface rfl Tryz.underlying103 rfl rfl ?_
 refine XL.a ?_
 refine XL.n2 ?_
 refine SP.ret ?_
 refine Jp.gam (Rm.conv (A := TkN (.slice (some ⟨a, 0, none⟩) (k + 1) cap) (k + 1) ts) (B := TkN (.slice (some ⟨a, 0, none⟩) k cap) k (ts.take k)) (by repeat' constructor) (fun h hh => by have := Sl'.shrink (m' := k) hh (Nat.le_succ k); rwa [flat_take Tk.len] at this)) ?_
 exact Jp.go (Pk.drop (Γ1 := [QB b (.slice (some ⟨a, 0, none⟩) k cap) (ws.set t.i.toNat 0), TkN (.slice (some ⟨a, 0, none⟩) k cap) k (ts.take k)]) (by repeat' constructor)) (Jp.end1 (.inr rfl) rfl rfl ⟨rfl, _, by simp [hw], rfl⟩)

end Go.Proofs

