/- A part of the proof that ModelLedger returns true for every input: what the last part leans on. No condition. -/
import Derived.Test.YtebkegcjgkkcgaaGreatP04
set_option linter.unusedVariables false
set_option linter.unusedSimpArgs false
set_option linter.unusedSectionVars false
set_option linter.deprecated false
set_option maxHeartbeats 1000000
namespace Go.Proofs
open Go.Bk
theorem TkN_eq {v : Value} {n : Nat} {us : List Tk} (h : us.length = n) : TkN v n us = TkS v us := by subst h; rfl
theorem RngT.app {ts : List Tk} {t : Tk} (h : RngT ts) (ht : 0 ≤ t.i ∧ t.i < 4096) : RngT (ts ++ [t]) := fun x hx => (List.mem_append.1 hx).elim (h x) fun e => by rw [show x = t by simpa using e]; exact ht
theorem Jp.end2G {P : Program} {w0 : World} {h0 : Hp} {n : Nat} {L : Sl} {Γ Γ' : List Asn} {fn : Func} {e : Exit} {post : Value → List Asn → Prop} {r1 r2 : ResultVar} {v1 v2 : Value} (he : e = .normal ∨ e = .ret) (hr : fn.results = #[r1, r2])
  (h1 : Res P w0 h0 L Γ r1 v1) (h2 : Res P w0 h0 L Γ r2 v2) (hΓ : ∀ h, star Γ h → star Γ' h) (hp : post (.tuple #[v1, v2]) Γ') : Jp w0 h0 e (bodyPost P fn (Post w0 h0 post)) n L Γ := by
 intro a w f s
 have := Jp.end2 (post := fun v Δ => v = .tuple #[v1, v2] ∧ Δ = Γ) he hr h1 h2 ⟨rfl, rfl⟩ a w f s
 rcases he with rfl | rfl <;> (obtain ⟨hd, v, hv, v2, Δ, e1, ⟨e2, e3⟩, s'⟩ := this; subst e2; subst e3; exact ⟨hd, v, hv, _, Γ', e1, hp, s'.mono hΓ⟩)
def zQ : List Value := .slice none 0 0 :: (List.replicate 4096 (.int .i64 0) ++ [.bool false])
set_option maxRecDepth 2000000 in
instance : Zr Tryz.prog 194 zQ := Zr.of (by kernel_rfl)
instance : Bld Tryz.prog 194 zQ [(0, 4097), (4097, 1)] := Bld.of Tryz.underlying194 (by kernel_rfl)
theorem st_last (a x y : Value) (z : Value) (n : Nat) : StL (a :: (List.replicate n z ++ [x])) (n + 1) [y] (a :: (List.replicate n z ++ [y])) := ⟨by simp, by
 rw [List.take_succ_cons, show n + 1 + [y].length = (n + 1) + 1 from rfl, List.drop_succ_cons, List.take_left' (by simp), List.drop_eq_nil_of_le (by simp)]
 simp⟩
theorem zQ_st : StL zQ 4097 [.bool true] (QC (.slice none 0 0) (List.replicate 4096 0)) := by
 unfold QC
 rw [List.map_replicate]
 exact st_last _ _ _ _ 4096
theorem zQ_fill : FilT zQ [(0, 4097), (4097, 1)] [(1, .bool true)] (QC (.slice none 0 0) (List.replicate 4096 0)) := @FilT.cons _ _ _ _ _ _ _ _ _ _ (GtP.succ _ _ _ _ _) _ zQ_st ⟨rfl⟩ (FilT.nil _ _)
theorem c113 (b : Nat) (v : Value) (ws : List Int) (hw : ws.length = 4096) (ts : List Tk) (hrg : RngT ts) (hn : ts.length ≤ 90000) (t : Tk) (ht : 0 ≤ t.i ∧ t.i < 4096) : Tri Tryz.prog 113 [.iface 197 (.pointer (some ⟨b, 0, none⟩)), .iface 103 (.agg #[.int .i64 t.i, .int .i64 t.due])] [QB b v ws, TkS v ts] (fun r Γ' => r = .tuple #[] ∧ ∃ (v' : Value) (ws' : List Int) (ts' : List Tk), ws'.length = 4096 ∧ ts'.Perm (ts ++ [t]) ∧ Γ' = [QB b v' ws', TkS v' ts']) := by
 refine Pcalls (n := 12) Tryz.func113 rfl rfl rfl fun W0 H0 => ?_
 refine SP.r2 ?_
 refine XL.m ?_
 refine XL.m ?_
 refine XL.iw rfl rfl (c225 b v ws hw ts hn t ht) (by repeat' constructor) rfl ?_
 rintro _ _ ⟨rfl, v1, ws1, hw1, rfl⟩
 refine XL.app2 ?_
 refine XL.know (Rm.know (A := TkS v1 (ts ++ [t])) (by repeat' constructor) (fun _ hq => Sl'.ptr hq (by simp))) ?_
 rintro ⟨a, cap, rfl, hcap⟩
 have hlt : (ts ++ [t]).length = ts.length + 1 := by simp
 refine XL.n3 ?_
 refine XL.m ?_
 refine XL.m ?_
 refine XL.ep rfl rfl (c132 _ _ _) rfl ?_
 refine XL.sub_i64 rfl rfl (by omega) (by omega) rfl ?_
 rw [show (((ts ++ [t]).length : Nat) : Int) - 1 = ((ts.length : Nat) : Int) by omega]
 refine XL.cw rfl (c130 b a cap (ts ++ [t]).length ws1 hw1 (ts ++ [t]) rfl (hrg.app ht) (by omega) ts.length (by omega)) (by repeat' constructor) rfl ?_
 rintro _ _ ⟨rfl, ws2, us, hws2, hus, hpu, rfl⟩
 rw [TkN_eq hus]
 refine XL.app2 ?_
 refine XL.nil ?_
 exact Jp.go (Pk.drop (Γ1 := [QB b (.slice (some ⟨a, 0, none⟩) (ts ++ [t]).length cap) ws2, TkS (.slice (some ⟨a, 0, none⟩) (ts ++ [t]).length cap) us]) (by repeat' constructor)) (Jp.end0 (.inl rfl) rfl ⟨rfl, _, ws2, us, hws2, hpu, rfl⟩)
theorem c115 (b : Nat) (v : Value) (ws : List Int) (hw : ws.length = 4096) (ts : List Tk) (hrg : RngT ts) (k : Nat) (hl : ts.length = k + 1) (hn : k ≤ 90000) : Tri Tryz.prog 115 [.iface 197 (.pointer (some ⟨b, 0, none⟩))] [QB b v ws, TkS v ts] (fun r Γ' => ∃ (v' : Value) (ws' : List Int) (ts' : List Tk), ws'.length = 4096 ∧ ts'.length = k ∧ (∀ x ∈ ts', x ∈ ts) ∧ Γ' = [QB b v' ws', TkS v' ts']) := by
 refine Pcalls (n := 15) Tryz.func115 rfl rfl rfl fun W0 H0 => ?_
 rw [← TkN_eq hl]
 refine SP.know (Rm.know (A := TkN v (k + 1) ts) (by repeat' constructor) (fun _ hq => Sl'.ptr hq (by omega))) ?_
 rintro ⟨a, cap, rfl, hcap⟩
 obtain ⟨t0, hg0⟩ : ∃ t, ts[0]? = some t := ⟨_, List.getElem?_eq_getElem (show 0 < ts.length by omega)⟩
 obtain ⟨tk, hgk⟩ : ∃ t, ts[k]? = some t := ⟨_, List.getElem?_eq_getElem (show k < ts.length by omega)⟩
 refine SP.r2 ?_
 refine XL.a ?_
 refine XL.n4 ?_
 refine XL.m ?_
 refine XL.ep rfl rfl (c132 _ _ _) rfl ?_
 refine XL.sub_i64 rfl rfl (by omega) (by omega) rfl ?_
 rw [show ((k + 1 : Nat) : Int) - 1 = (k : Int) by omega]
 refine XL.a ?_
 refine XL.n4 ?_
 refine XL.m ?_
 refine XL.m ?_
 refine XL.iw rfl rfl (c226 b a cap (k + 1) 0 k ws hw ts hl hrg t0 tk hg0 hgk (by omega)) (by repeat' constructor) rfl ?_
 rintro _ _ ⟨rfl, ws1, hw1, rfl⟩
 refine XL.app2 ?_
 refine XL.n4 ?_
 refine XL.m ?_
 refine XL.m ?_
 refine XL.cw rfl (c133 b a cap (k + 1) ws1 hw1 ((ts.set 0 tk).set k t0) (by simp [hl]) (swap_rng hrg hg0 hgk) (by omega) k (by omega)) (by repeat' constructor) rfl ?_
 rintro _ _ ⟨⟨bb, rfl⟩, ws2, us, hw2, hus, hpu, rfl⟩
 refine XL.app2 ?_
 have hpt : us.Perm ts := hpu.trans (swap_perm hg0 hgk)
 obtain ⟨tl, hgl⟩ : ∃ t, us[k]? = some t := ⟨_, List.getElem?_eq_getElem (show k < us.length by omega)⟩
 refine XL.n4 ?_
 refine XL.m ?_
 refine XL.iw rfl rfl (c224 b a cap k ws2 hw2 us hus hcap hn tl hgl (hrg.perm hpt tl (List.mem_of_getElem? hgl))) (by repeat' constructor) rfl ?_
 rintro _ _ ⟨rfl, ws3, hw3, rfl⟩
 rw [TkN_eq (show (us.take k).length = k by rw [List.length_take]; omega)]
 refine XL.app2 ?_
 refine XL.a ?_
 refine XL.n2 ?_
 refine SP.ret ?_
 exact Jp.go (Pk.drop (Γ1 := [QB b (.slice (some ⟨a, 0, none⟩) k cap) ws3, TkS (.slice (some ⟨a, 0, none⟩) k cap) (us.take k)]) (by repeat' constructor)) (Jp.end1 (.inr rfl) rfl rfl ⟨_, ws3, us.take k, hw3, by rw [List.length_take]; omega, fun x hx => hpt.mem_iff.1 (List.mem_of_mem_take hx), rfl⟩)
theorem First_0  : Pur Tryz.prog 114 [.pointer none] (.tuple #[.agg #[.int .i64 0, .int .i64 0], .bool false]) := by
 refine Pcalls (n := 24) Tryz.func114 rfl rfl rfl fun W0 H0 => ?_
 refine SP.r2 ?_
 refine XL.alloc (by rfl) (fun b1 => ?_)
 refine XL.a ?_
 refine XL.n5 ?_
 refine SP.r2 ?_
 refine XL.m ?_
 refine XL.cp rfl c131_0 rfl ?_
 refine XL.not_f rfl rfl ?_
 refine XL.m ?_
 refine XL.k ?_
 refine XL.k ?_
 refine XL.k ?_
 refine XL.k ?_
 refine XL.k ?_
 refine XL.k ?_
 refine XL.k ?_
 refine XL.pick_t rfl rfl rfl ?_
 refine XL.n2 ?_
 refine SP.t ?_
 refine SP.r2 ?_
 refine XL.build (by rfl) (by rfl) ?_
 refine XL.sA ?_
 refine XL.a ?_
 refine XL.n2 ?_
 refine SP.ret ?_
 refine Jp.then_ret ?_
 refine Jp.pur2 (.inr rfl) rfl (Res.cellA (by rfl)) rfl rfl
theorem First_e (b : Nat) (v : Value) (ws : List Int) (hw : ws.length = 4096) : Tri Tryz.prog 114 [.pointer (some ⟨b, 0, none⟩)] [QB b v ws, TkS v []] (fun r Γ' => r = .tuple #[.agg #[.int .i64 0, .int .i64 0], .bool false] ∧ Γ' = [QB b v ws, TkS v []]) := by
 refine Pcalls (n := 24) Tryz.func114 rfl rfl rfl fun W0 H0 => ?_
 refine SP.know (Rm.know (A := TkS v []) (by repeat' constructor) (fun _ hq => Sl'.len hq)) ?_
 rintro ⟨a, cap, rfl, _⟩
 refine SP.r2 ?_
 refine XL.alloc (by rfl) (fun b1 => ?_)
 refine XL.a ?_
 refine XL.n5 ?_
 refine SP.r2 ?_
 refine XL.m ?_
 refine XL.cr rfl (c131 b _ ws hw) (by repeat' constructor) rfl ?_
 refine XL.not_t rfl rfl ?_
 refine XL.m ?_
 refine XL.g ?_
 refine XL.m ?_
 refine XL.g ?_
 refine XL.nilCheck rfl rfl ?_
 refine XL.g ?_
 refine XL.f ?_
 refine XL.g ?_
 refine XL.f ?_
 refine XL.g ?_
 refine XL.l ?_
 refine XL.g ?_
 refine XL.cp rfl (c132 _ _ _) rfl ?_
 refine XL.g ?_
 refine XL.eql_t rfl rfl rfl rfl ?_
 refine XL.pick_f rfl rfl rfl ?_
 refine XL.n2 ?_
 refine SP.t ?_
 refine SP.r2 ?_
 refine XL.build (by rfl) (by rfl) ?_
 refine XL.sA ?_
 refine XL.a ?_
 refine XL.n2 ?_
 refine SP.ret ?_
 refine Jp.then_ret ?_
 exact Jp.end2G (.inr rfl) rfl (Res.cellA (by rfl)) rfl (Pk.drop (Γ1 := [QB b (.slice a 0 cap) ws, TkS (.slice a 0 cap) []]) (by repeat' constructor)) ⟨rfl, rfl⟩
theorem First_s (b : Nat) (v : Value) (ws : List Int) (hw : ws.length = 4096) (t : Tk) (ts : List Tk) : Tri Tryz.prog 114 [.pointer (some ⟨b, 0, none⟩)] [QB b v ws, TkS v (t :: ts)] (fun r Γ' => r = .tuple #[.agg #[.int .i64 t.i, .int .i64 t.due], .bool true] ∧ Γ' = [QB b v ws, TkS v (t :: ts)]) := by
 refine Pcalls (n := 24) Tryz.func114 rfl rfl rfl fun W0 H0 => ?_
 refine SP.know (Rm.know (A := TkS v (t :: ts)) (by repeat' constructor) (fun _ hq => Sl'.ptr hq (by simp))) ?_
 rintro ⟨a, cap, rfl, _⟩
 have hlt : (t :: ts).length = ts.length + 1 := rfl
 refine SP.r2 ?_
 refine XL.alloc (by rfl) (fun b1 => ?_)
 refine XL.a ?_
 refine XL.n5 ?_
 refine SP.r2 ?_
 refine XL.m ?_
 refine XL.cr rfl (c131 b _ ws hw) (by repeat' constructor) rfl ?_
 refine XL.not_t rfl rfl ?_
 refine XL.m ?_
 refine XL.g ?_
 refine XL.m ?_
 refine XL.g ?_
 refine XL.nilCheck rfl rfl ?_
 refine XL.g ?_
 refine XL.f ?_
 refine XL.g ?_
 refine XL.f ?_
 refine XL.g ?_
 refine XL.l ?_
 refine XL.g ?_
 refine XL.cp rfl (c132 _ _ _) rfl ?_
 refine XL.g ?_
 refine XL.eql_f rfl rfl (by omega) rfl ?_
 refine XL.pick_f rfl rfl rfl ?_
 refine XL.n2 ?_
 refine SP.f ?_
 refine SP.skip ?_
 refine Jp.n4 ?_
 refine XL.m ?_
 refine XL.nilCheck rfl rfl ?_
 refine XL.f ?_
 refine XL.f ?_
 refine XL.l ?_
 refine XL.indexSl (r := 0) rfl rfl (by decide) (by omega) rfl rfl ?_
 refine XL.loadA (hs := SbL.flat Tk.len (l := t :: ts) (i := 0) (x := t) rfl rfl) rfl rfl ?_
 refine XL.sA ?_
 refine XL.a ?_
 refine XL.n2 ?_
 refine SP.ret ?_
 exact Jp.end2G (.inr rfl) rfl (Res.cellA (by rfl)) rfl (Pk.drop (Γ1 := [QB b (.slice (some ⟨a, 0, none⟩) (t :: ts).length cap) ws, TkS (.slice (some ⟨a, 0, none⟩) (t :: ts).length cap) (t :: ts)]) (by repeat' constructor)) ⟨rfl, rfl⟩
theorem Take_0 (now : Int) : Pur Tryz.prog 86 [.pointer none, .int .i64 now] (.tuple #[.agg #[.int .i64 0, .int .i64 0], .bool false]) := by
 refine Pcalls (n := 28) Tryz.func86 rfl rfl rfl fun W0 H0 => ?_
 refine SP.r2 ?_
 refine XL.alloc (by rfl) (fun b1 => ?_)
 refine XL.a ?_
 refine XL.n4 ?_
 refine XL.m ?_
 refine XL.cp rfl First_0 rfl ?_
 refine XL.m ?_
 refine XL.x ?_
 refine XL.x ?_
 refine XL.alloc (by rfl) (fun b2 => ?_)
 refine XL.sA ?_
 refine XL.a ?_
 refine XL.n5 ?_
 refine SP.r2 ?_
 refine XL.m ?_
 refine XL.not_f rfl rfl ?_
 refine XL.m ?_
 refine XL.k ?_
 refine XL.k ?_
 refine XL.k ?_
 refine XL.k ?_
 refine XL.pick_t rfl rfl rfl ?_
 refine XL.n2 ?_
 refine SP.t ?_
 refine SP.r2 ?_
 refine XL.build (by rfl) (by rfl) ?_
 refine XL.sA ?_
 refine XL.a ?_
 refine XL.n2 ?_
 refine SP.ret ?_
 refine Jp.then_ret ?_
 refine Jp.pur2 (.inr rfl) rfl (Res.cellA (by rfl)) rfl rfl
theorem Take_e (b : Nat) (v : Value) (ws : List Int) (hw : ws.length = 4096) (now : Int) : Tri Tryz.prog 86 [.pointer (some ⟨b, 0, none⟩), .int .i64 now] [QB b v ws, TkS v []] (fun r Γ' => r = .tuple #[.agg #[.int .i64 0, .int .i64 0], .bool false] ∧ Γ' = [QB b v ws, TkS v []]) := by
 refine Pcalls (n := 28) Tryz.func86 rfl rfl rfl fun W0 H0 => ?_
 refine SP.r2 ?_
 refine XL.alloc (by rfl) (fun b1 => ?_)
 refine XL.a ?_
 refine XL.n4 ?_
 refine XL.m ?_
 refine XL.cr rfl (First_e b v ws hw) (by repeat' constructor) rfl ?_
 refine XL.m ?_
 refine XL.x ?_
 refine XL.x ?_
 refine XL.alloc (by rfl) (fun b2 => ?_)
 refine XL.sA ?_
 refine XL.a ?_
 refine XL.n5 ?_
 refine SP.r2 ?_
 refine XL.m ?_
 refine XL.not_f rfl rfl ?_
 refine XL.m ?_
 refine XL.k ?_
 refine XL.k ?_
 refine XL.k ?_
 refine XL.k ?_
 refine XL.pick_t rfl rfl rfl ?_
 refine XL.n2 ?_
 refine SP.t ?_
 refine SP.r2 ?_
 refine XL.build (by rfl) (by rfl) ?_
 refine XL.sA ?_
 refine XL.a ?_
 refine XL.n2 ?_
 refine SP.ret ?_
 refine Jp.then_ret ?_
 exact Jp.end2G (.inr rfl) rfl (Res.cellA (by rfl)) rfl (Pk.drop (Γ1 := [QB b v ws, TkS v []]) (by repeat' constructor)) ⟨rfl, rfl⟩
theorem Take_s (b : Nat) (v : Value) (ws : List Int) (hw : ws.length = 4096) (t : Tk) (ts : List Tk) (hrg : RngT (t :: ts)) (hn : ts.length ≤ 90000) (now : Int) : Tri Tryz.prog 86 [.pointer (some ⟨b, 0, none⟩), .int .i64 now] [QB b v ws, TkS v (t :: ts)] (fun r Γ' => (r = .tuple #[.agg #[.int .i64 0, .int .i64 0], .bool false] ∧ Γ' = [QB b v ws, TkS v (t :: ts)]) ∨ ∃ (v' : Value) (ws' : List Int) (ts' : List Tk), r = .tuple #[.agg #[.int .i64 t.i, .int .i64 t.due], .bool true] ∧ ws'.length = 4096 ∧ ts'.length = ts.length ∧ (∀ x ∈ ts', x ∈ t :: ts) ∧ Γ' = [QB b v' ws', TkS v' ts']) := by
 refine Pcalls (n := 28) Tryz.func86 rfl rfl rfl fun W0 H0 => ?_
 refine SP.r2 ?_
 refine XL.alloc (by rfl) (fun b1 => ?_)
 refine XL.a ?_
 refine XL.n4 ?_
 refine XL.m ?_
 refine XL.cr rfl (First_s b v ws hw t ts) (by repeat' constructor) rfl ?_
 refine XL.m ?_
 refine XL.x ?_
 refine XL.x ?_
 refine XL.alloc (by rfl) (fun b2 => ?_)
 refine XL.sA ?_
 refine XL.a ?_
 refine XL.n5 ?_
 refine SP.r2 ?_
 refine XL.m ?_
 refine XL.not_t rfl rfl ?_
 refine XL.m ?_
 refine XL.g ?_
 refine XL.f ?_
 refine XL.g ?_
 refine XL.l ?_
 refine XL.g ?_
 refine XL.m ?_
 refine XL.g ?_
 refine XL.gtr_s rfl rfl rfl (fun hd => ?_) (fun hd => ?_)
 ·refine XL.pick_f rfl rfl rfl ?_
  refine XL.n2 ?_
  refine SP.t ?_
  refine SP.r2 ?_
  refine XL.build (by rfl) (by rfl) ?_
  refine XL.sA ?_
  refine XL.a ?_
  refine XL.n2 ?_
  refine SP.ret ?_
  refine Jp.then_ret ?_
  exact Jp.end2G (.inr rfl) rfl (Res.cellA (by rfl)) rfl (Pk.drop (Γ1 := [QB b v ws, TkS v (t :: ts)]) (by repeat' constructor)) (.inl ⟨rfl, rfl⟩)
 ·refine XL.pick_f rfl rfl rfl ?_
  refine XL.n2 ?_
  refine SP.f ?_
  refine SP.skip ?_
  refine Jp.n4 ?_
  refine XL.m ?_
  refine XL.nilCheck rfl rfl ?_
  refine XL.f ?_
  refine XL.makeIface rfl Tryz.underlying197 rfl rfl ?_
  refine XL.cw rfl (c115 b v ws hw (t :: ts) hrg ts.length rfl hn) (by repeat' constructor) rfl ?_
  rintro _ _ ⟨v2, ws2, us, hw2, hus, hsub, rfl⟩
  refine XL.app2 ?_
  refine XL.n4 ?_
  refine XL.lA ?_
  refine XL.sA ?_
  refine XL.a ?_
  refine XL.n2 ?_
  refine SP.ret ?_
  exact Jp.end2G (.inr rfl) rfl (Res.cellA (by rfl)) rfl (Pk.drop (Γ1 := [QB b v2 ws2, TkS v2 us]) (by repeat' constructor)) (.inr ⟨v2, ws2, us, rfl, hw2, hus, hsub, rfl⟩)
structure NwS where
 i : Nat
 v : Value
 ws : List Int
 us : List Tk
theorem c85 (v : Value) (ts : List Tk) (hrg : RngT ts) (hn : ts.length ≤ 4096) : Tri Tryz.prog 85 [v] [TkS v ts] (fun r Γ' => ∃ (qv : Value) (e : Int), r = .tuple #[qv, .int .i64 e] ∧ ((qv = .pointer none ∧ Γ' = [TkS v ts]) ∨ ∃ (b : Nat) (v' : Value) (ws' : List Int) (ts' : List Tk), qv = .pointer (some ⟨b, 0, none⟩) ∧ ws'.length = 4096 ∧ RngT ts' ∧ ts'.length ≤ 4096 ∧ Γ' = [QB b v' ws', TkS v' ts', TkS v ts])) := by
 refine Pcalls (n := 39) Tryz.func85 rfl rfl rfl fun W0 H0 => ?_
 refine SP.slv (by repeat' constructor) ?_
 rintro a cap bb rfl hA hlx
 refine SP.r2 ?_
 refine XL.a ?_
 refine XL.a ?_
 refine XL.n5 ?_
 refine SP.r2 ?_
 refine XL.m ?_
 refine XL.len (by rfl) (by rfl) ?_
 refine XL.gtr_f rfl rfl (by omega) rfl ?_
 refine XL.n2 ?_
 refine SP.f ?_
 refine SP.skip ?_
 refine Jp.n4 ?_
 refine XL.build (hf := zQ_fill) (by rfl) (by rfl) ?_
 refine XL.boxA rfl rfl (fun bq => ?_)
 refine XL.a ?_
 refine XL.n5 ?_
 refine SP.r2 ?_
 refine XL.m ?_
 refine XL.len (by rfl) (by rfl) ?_
 refine XL.m ?_
 refine XL.n2 ?_
 refine SP.block ?_
 refine SP.gam (star_nilS (E := 103) (k := 2)) ?_
 refine SP.loop (X := NwS) (fun w => [(14, .int .i64 (w.i : Int)), (13, .int .i64 (ts.length : Int)), (12, .slice a ts.length cap), (4, .pointer (some ⟨bq, 0, none⟩))]) (fun w => [QB bq w.v w.ws, TkS w.v w.us, TkS (.slice a ts.length cap) ts]) (fun w => w.i ≤ ts.length ∧ w.ws.length = 4096 ∧ RngT w.us ∧ w.us.length ≤ w.i) (fun w => ts.length - w.i) ⟨0, .slice none 0 0, List.replicate 4096 0, []⟩ ⟨Nat.zero_le _, List.length_replicate, fun t h => absurd h (by simp), Nat.le_refl _⟩ (by repeat' constructor) (Pk.drop (by repeat' constructor)) ?_
 rintro ⟨i, v1, ws1, us⟩ ⟨hi, hw1, hru, hul⟩
 dsimp only at *
 refine SP.r2 ?_
 refine XL.lss_s rfl rfl rfl (fun hk => ?_) (fun hk => ?_)
 ·obtain ⟨t, hgt⟩ : ∃ t, ts[i]? = some t := ⟨_, List.getElem?_eq_getElem (show i < ts.length by omega)⟩
  have ht := hrg t (List.mem_of_getElem? hgt)
  obtain rfl := hA (by omega)
  refine XL.n5 ?_
  refine SP.t ?_
  refine SP.skip ?_
  refine Jp.then_normal ?_
  refine SP.seq ?_
  refine SP.block ?_
  refine SP.r2 ?_
  refine XL.indexSl (r := i * 2) rfl rfl (by omega) (by omega) (by omega) rfl ?_
  refine XL.loadA (hs := SbL.flat Tk.len hgt rfl) rfl rfl ?_
  refine XL.alloc (by rfl) (fun b1 => ?_)
  refine XL.sA ?_
  refine XL.n5 ?_
  refine SP.r2 ?_
  refine XL.lA ?_
  refine XL.cs rfl (c112 t) rfl (fun hm => ?_) (fun hm => ?_)
  ·refine XL.not_t rfl rfl ?_
   refine XL.n2 ?_
   refine SP.f ?_
   refine SP.skip ?_
   refine Jp.then_normal ?_
   refine SP.seq ?_
   refine SP.seq ?_
   refine SP.quiet Tryz.fol (by kernel_rfl) ?_
   refine XL.m ?_
   refine XL.f ?_
   refine XL.l ?_
   refine XL.nilCheck rfl rfl ?_
   refine XL.f ?_
   refine XL.f ?_
   refine XL.indexArr (r := 1 + t.i.toNat) rfl rfl ht.1 ht.2 (by omega) rfl ?_
   refine XL.load (hv := QC.at _ hw1 (i := t.i.toNat) (by omega)) rfl rfl ?_
   refine XL.gtr_s rfl rfl rfl (fun hp => ?_) (fun hp => ?_)
   ·refine XL.nilq_end ?_
    refine Jp.then_normal ?_
    refine SP.t ?_
    refine SP.r2 ?_
    refine XL.a ?_
    refine XL.a ?_
    refine XL.n2 ?_
    refine SP.ret ?_
    refine Jp.then_ret ?_
    refine Jp.block_ret ?_
    refine Jp.then_ret ?_
    refine Jp.then_ret ?_
    refine Jp.block_ret ?_
    refine Jp.then_ret ?_
    exact Jp.end2G (.inr rfl) rfl rfl rfl (Pk.drop (Γ1 := [TkS (.slice (some ⟨bb, 0, none⟩) ts.length cap) ts]) (by repeat' constructor)) ⟨_, _, rfl, .inl ⟨rfl, rfl⟩⟩
   ·refine XL.nilq_end ?_
    refine Jp.then_normal ?_
    refine SP.f ?_
    refine SP.skip ?_
    refine Jp.then_normal ?_
    refine SP.tail 6 Tryz.fol (by kernel_rfl) ?_
    refine XL.m ?_
    refine XL.nilCheck rfl rfl ?_
    refine XL.f ?_
    refine XL.makeIface rfl Tryz.underlying197 rfl rfl ?_
    refine XL.lA ?_
    refine XL.makeIface rfl Tryz.underlying103 rfl rfl ?_
    refine XL.nilq_tail ?_
    refine XL.cw rfl (c113 bq v1 ws1 hw1 us hru (by omega) t ht) (by repeat' constructor) rfl ?_
    rintro _ _ ⟨rfl, v2, ws2, us2, hw2, hpu, rfl⟩
    refine XL.app2 ?_
    refine XL.nil ?_
    refine Jp.block_normal ?_
    refine Jp.then_normal ?_
    refine SP.region ?_
    refine XL.add_i64 rfl rfl (by omega) (by omega) rfl ?_
    refine XL.m ?_
    refine XL.nil ?_
    refine Jp.rd ⟨i + 1, v2, ws2, us2⟩ ⟨by show i + 1 ≤ ts.length; omega, hw2, (hru.app ht).perm hpu, by have := hpu.length_eq; show us2.length ≤ i + 1; simp at this; omega⟩ (by show ts.length - (i + 1) < ts.length - i; omega)
  ·refine XL.not_f rfl rfl ?_
   refine XL.n2 ?_
   refine SP.t ?_
   refine SP.r2 ?_
   refine XL.a ?_
   refine XL.a ?_
   refine XL.n2 ?_
   refine SP.ret ?_
   refine Jp.then_ret ?_
   refine Jp.block_ret ?_
   refine Jp.then_ret ?_
   refine Jp.then_ret ?_
   refine Jp.block_ret ?_
   refine Jp.then_ret ?_
   exact Jp.end2G (.inr rfl) rfl rfl rfl (Pk.drop (Γ1 := [TkS (.slice (some ⟨bb, 0, none⟩) ts.length cap) ts]) (by repeat' constructor)) ⟨_, _, rfl, .inl ⟨rfl, rfl⟩⟩
 ·refine XL.n5 ?_
  refine SP.f ?_
  refine SP.exit ?_
  refine Jp.then_exit ?_
  refine Jp.then_exit ?_
  refine Jp.block_here ?_
  refine Jp.n4 ?_
  refine XL.m ?_
  refine XL.a ?_
  refine XL.a ?_
  refine XL.n2 ?_
  refine SP.ret ?_
  exact Jp.end2G (.inr rfl) rfl rfl rfl (Pk.drop (Γ1 := [QB bq v1 ws1, TkS v1 us, TkS (.slice a ts.length cap) ts]) (by repeat' constructor)) ⟨_, _, rfl, .inr ⟨bq, v1, ws1, us, rfl, hw1, hru, by omega, rfl⟩⟩
end Go.Proofs

namespace Go.Proofs
open Go.Bk
def QA (qv : Value) (n : Nat) : Asn := fun h => (qv = .pointer none) ∨ ∃ b v ws us, qv = .pointer (some ⟨b, 0, none⟩) ∧ ws.length = 4096 ∧ RngT us ∧ us.length ≤ n ∧ n ≤ 4096 ∧ star [QB b v ws, TkS v us] h
theorem QA.none (n : Nat) {Γ : List Asn} : ∀ h, star Γ h → star (QA (.pointer none) n :: Γ) h := fun h s => ⟨fun _ => Option.none, h, by funext b; simp [un], fun b => .inl rfl, .inl rfl, s⟩
theorem QA.some {b n : Nat} {v : Value} {ws : List Int} {us : List Tk} {Γ : List Asn} (hw : ws.length = 4096) (hr : RngT us) (hn : us.length ≤ n) (hn2 : n ≤ 4096) : ∀ h, star (QB b v ws :: TkS v us :: Γ) h → star (QA (.pointer (some ⟨b, 0, Option.none⟩)) n :: Γ) h := fun h s => by
 have := (star_flat (Γ := [QB b v ws, TkS v us]) (Δ := Γ) h).2 s
 exact star_head (fun k hk => .inr ⟨b, v, ws, us, rfl, hw, hr, hn, hn2, hk⟩) this
theorem new_q (v : Value) (ts : List Tk) (hrg : RngT ts) (hn : ts.length ≤ 4096) : Tri Tryz.prog 85 [v] [TkS v ts] (fun r Γ' => ∃ (qv : Value) (e : Int), r = .tuple #[qv, .int .i64 e] ∧ Γ' = [QA qv 4096]) :=
 Tri.conseq (c85 v ts hrg hn) fun r Γ' ⟨qv, e, h1, h2⟩ => by
  rcases h2 with ⟨rfl, rfl⟩ | ⟨b, v', ws, us, rfl, hw, hr, hl, rfl⟩
  ·exact ⟨_, ⟨_, e, h1, rfl⟩, fun h s => QA.none 4096 h (star_nil h)⟩
  ·exact ⟨_, ⟨_, e, h1, rfl⟩, fun h s => QA.some hw hr hl (Nat.le_refl _) h (Pk.drop (Γ1 := [QB b v' ws, TkS v' us]) (Γ2 := [TkS v ts]) (by repeat' constructor) h s)⟩
theorem Tri.caseA {P : Program} {f : FuncId} {vs : List Value} {A : Asn} {post : Value → List Asn → Prop} (t : ∀ h, A h → ∃ Γ, star Γ h ∧ Tri P f vs Γ post) : Tri P f vs [A] post := fun w h s a => by
 obtain ⟨h1, h2, e, d, ha, _⟩ := id s
 obtain ⟨Γ, hs, ht⟩ := t h1 ha
 exact ht w h (by rw [e]; exact star_more Γ d hs) a
theorem take_q (qv : Value) (n : Nat) (now : Int) : Tri Tryz.prog 86 [qv, .int .i64 now] [QA qv n] (fun r Γ' => ∃ (t : Tk) (ok : Bool) (n' : Nat), r = .tuple #[.agg #[.int .i64 t.i, .int .i64 t.due], .bool ok] ∧ n' ≤ n ∧ (ok = true → n' < n ∧ 0 ≤ t.i ∧ t.i < 4096) ∧ Γ' = [QA qv n']) :=
 Tri.caseA fun h hq => by
  rcases hq with rfl | ⟨b, v, ws, us, rfl, hw, hr, hl, hn, hs⟩
  ·refine ⟨[], trivial, Tri.conseq (Take_0 now) fun r Γ' ⟨h1, h2⟩ => ?_⟩
   exact ⟨_, ⟨⟨0, 0⟩, false, n, h1, Nat.le_refl _, (fun h => absurd h (by decide)), rfl⟩, fun h s => QA.none n h (star_nil h)⟩
  ·cases us with
   | nil =>
    refine ⟨_, hs, Tri.conseq (Take_e b v ws hw now) fun r Γ' ⟨h1, h2⟩ => ?_⟩
    subst h2
    exact ⟨_, ⟨⟨0, 0⟩, false, n, h1, Nat.le_refl _, (fun h => absurd h (by decide)), rfl⟩, fun h s => QA.some hw hr hl hn h s⟩
   | cons t ts =>
    simp only [List.length_cons] at hl
    refine ⟨_, hs, Tri.conseq (Take_s b v ws hw t ts hr (by omega) now) fun r Γ' hh => ?_⟩
    rcases hh with ⟨h1, rfl⟩ | ⟨v', ws', us, h1, hw', hl', hsub, rfl⟩
    ·exact ⟨_, ⟨⟨0, 0⟩, false, n, h1, Nat.le_refl _, (fun h => absurd h (by decide)), rfl⟩, fun h s => QA.some hw hr (by simp; omega) hn h s⟩
    ·exact ⟨_, ⟨t, true, n - 1, h1, by omega, fun _ => ⟨by omega, hr t (by simp)⟩, rfl⟩, fun h s => QA.some hw' (fun x hx => hr x (hsub x hx)) (by omega) (by omega) h s⟩
theorem of_may {k : Pl} (h : MayS k.x k.y k.z) {i : Int} (h0 : 0 ≤ i) (h1 : i < 4096) : MayQ ⟨k.x * 16 + i % 16, k.y * 16 + i / 256, k.z * 16 + i / 16 % 16⟩ := by
 unfold MayS at h
 unfold MayQ MayP
 simp only
 omega
end Go.Proofs

namespace Go.Proofs
open Go.Bk
def anP (s : St) (i : Nat) : Pl := if i = 0 then s.a0 else s.a1
def anO (s : St) (i : Nat) : Bool := if i = 0 then s.on0 else s.on1
theorem an_at (s : St) {i : Nat} (h : i < 2) : SbL [.int .i64 s.a0.x, .int .i64 s.a0.y, .int .i64 s.a0.z, .bool s.on0, .int .i64 s.a1.x, .int .i64 s.a1.y, .int .i64 s.a1.z, .bool s.on1] (i * 4) 4 [.int .i64 (anP s i).x, .int .i64 (anP s i).y, .int .i64 (anP s i).z, .bool (anO s i)] := by
 obtain rfl | rfl : i = 0 ∨ i = 1 := by omega
 ·exact ⟨Nat.le_of_ble_eq_true rfl, rfl⟩
 ·exact ⟨Nat.le_of_ble_eq_true rfl, rfl⟩
structure StOk (s : St) : Prop where
 now : 0 ≤ s.now ∧ s.now ≤ 1099511627776
 a0 : s.on0 = true → MayS s.a0.x s.a0.y s.a0.z
 a1 : s.on1 = true → MayS s.a1.x s.a1.y s.a1.z
theorem StOk.an {s : St} (h : StOk s) (i : Nat) (ho : anO s i = true) : MayS (anP s i).x (anP s i).y (anP s i).z := by
 unfold anO at ho
 unfold anP
 by_cases e : i = 0
 ·rw [if_pos e] at ho ⊢; exact h.a0 ho
 ·rw [if_neg e] at ho ⊢; exact h.a1 ho
structure AnS where
 n : Nat
 v : Value
 ls : List (Pl × Int)
 l : List Pl
structure AnI (ls : List (Pl × Int)) (l : List Pl) (n : Nat) : Prop where
 may : ∀ x ∈ l, MayS x.x x.y x.z
 len : l.length ≤ n
 cnt : ∀ q, 0 ≤ cntL ls q ∧ cntL ls q ≤ 1
theorem AnI.mono {ls : List (Pl × Int)} {l : List Pl} {n k : Nat} (h : AnI ls l n) (hk : n ≤ k) : AnI ls l k := ⟨h.may, Nat.le_trans h.len hk, h.cnt⟩
theorem AnI.add {ls : List (Pl × Int)} {l : List Pl} {n : Nat} (h : AnI ls l n) {x : Pl} (hm : MayS x.x x.y x.z) (hc : cntL ls x = 0) : AnI (setM ls x (cntL ls x + 1)) (l ++ [x]) (n + 1) :=
 ⟨fun y hy => (List.mem_append.1 hy).elim (h.may y) fun e => by rw [show y = x by simpa using e]; exact hm, by have := h.len; simp; omega, fun q => by
  rw [cntL_set]; split
  ·omega
  ·exact h.cnt q⟩
theorem SpS_snoc (v : Value) (l : List Pl) (x : Pl) : Sl' 34 3 v (l.length + 1) (l.flatMap Pl.cs ++ x.cs) = SpS v (l ++ [x]) := by unfold SpS; simp
theorem c84 (s : St) (hs : StOk s) : Tri Tryz.prog 84 [.agg #[.int .i64 s.a0.x, .int .i64 s.a0.y, .int .i64 s.a0.z, .bool s.on0, .int .i64 s.a1.x, .int .i64 s.a1.y, .int .i64 s.a1.z, .bool s.on1]] [] (fun r Γ' => ∃ l : List Pl, l.length ≤ 72 ∧ (∀ x ∈ l, MayS x.x x.y x.z) ∧ Γ' = [SpS r l]) := by
 refine Pcalls (n := 64) Tryz.func84 rfl rfl rfl fun W0 H0 => ?_
 refine SP.r2 ?_
 refine XL.boxA rfl rfl (fun b1 => ?_)
 refine XL.a ?_
 refine XL.n4 ?_
 refine XL.makeMap (ek := Pl.v) (ev' := i64v) rfl (fun m1 => ?_)
 refine XL.a ?_
 refine XL.n4 ?_
 refine XL.a ?_
 refine XL.n5 ?_
 refine SP.r2 ?_
 refine XL.lA ?_
 refine XL.m ?_
 refine XL.n2 ?_
 refine SP.block ?_
 refine SP.gam (star_nilS (E := 34) (k := 3)) ?_
 refine SP.loop (X := AnS) (fun w => [(12, .int .i64 (w.n : Int)), (4, w.v), (1, .pointer (some ⟨b1, 0, none⟩)), (3, .map (some m1)), (11, .agg #[.int .i64 s.a0.x, .int .i64 s.a0.y, .int .i64 s.a0.z, .bool s.on0, .int .i64 s.a1.x, .int .i64 s.a1.y, .int .i64 s.a1.z, .bool s.on1])]) (fun w => [pt b1 (cel [.int .i64 s.a0.x, .int .i64 s.a0.y, .int .i64 s.a0.z, .bool s.on0, .int .i64 s.a1.x, .int .i64 s.a1.y, .int .i64 s.a1.z, .bool s.on1] 39), MpR Pl.v i64v m1 w.ls, SpS w.v w.l]) (fun w => w.n ≤ 2 ∧ AnI w.ls w.l (w.n * 36)) (fun w => 2 - w.n) ⟨0, .slice none 0 0, [], []⟩ ⟨Nat.zero_le _, fun x hx => absurd hx (by simp), Nat.le_refl _, fun q => ⟨show (0 : Int) ≤ 0 by decide, show (0 : Int) ≤ 1 by decide⟩⟩ (by repeat' constructor) (Pk.drop (by repeat' constructor)) ?_
 rintro ⟨i, v, ls, l⟩ ⟨hi, hI⟩
 dsimp only at *
 refine SP.r2 ?_
 refine XL.lss_s rfl rfl rfl (fun hc => ?_) (fun hc => ?_)
 ·refine XL.n5 ?_
  refine SP.t ?_
  refine SP.skip ?_
  refine Jp.then_normal ?_
  refine SP.seq ?_
  refine SP.block ?_
  refine SP.r2 ?_
  refine XL.indexA (hE := inferInstance) rfl rfl rfl (by omega) (an_at s (show i < 2 by omega)) rfl ?_
  refine XL.alloc (by rfl) (fun b2 => ?_)
  refine XL.sA ?_
  refine XL.n5 ?_
  refine SP.r2 ?_
  refine XL.f ?_
  rcases hon : anO s i with _ | _
  ·refine XL.l ?_
   refine XL.not_f rfl rfl ?_
   refine XL.n2 ?_
   refine SP.t ?_
   refine SP.exit ?_
   refine Jp.then_exit ?_
   refine Jp.block_here ?_
   refine Jp.then_normal ?_
   refine SP.region ?_
   refine XL.add_i64 rfl rfl (by omega) (by omega) rfl ?_
   refine XL.m ?_
   refine XL.nil ?_
   refine Jp.rd ⟨i + 1, v, ls, l⟩ ⟨by show i + 1 ≤ 2; omega, hI.mono (by show i * 36 ≤ (i + 1) * 36; omega)⟩ (by show 2 - (i + 1) < 2 - i; omega)
  ·refine XL.l ?_
   have hm := hs.an i hon
   unfold MayS at hm
   refine XL.not_t rfl rfl ?_
   refine XL.n2 ?_
   refine SP.f ?_
   refine SP.skip ?_
   refine Jp.n4 ?_
   refine XL.a ?_
   refine XL.n2 ?_
   refine SP.block ?_
   refine SP.loop (X := AnS) (fun w => [(7, .int .i64 (w.n : Int)), (12, .int .i64 (i : Int)), (6, .pointer (some ⟨b2, 0, none⟩)), (4, w.v), (1, .pointer (some ⟨b1, 0, none⟩)), (3, .map (some m1)), (11, .agg #[.int .i64 s.a0.x, .int .i64 s.a0.y, .int .i64 s.a0.z, .bool s.on0, .int .i64 s.a1.x, .int .i64 s.a1.y, .int .i64 s.a1.z, .bool s.on1])]) (fun w => [pt b1 (cel [.int .i64 s.a0.x, .int .i64 s.a0.y, .int .i64 s.a0.z, .bool s.on0, .int .i64 s.a1.x, .int .i64 s.a1.y, .int .i64 s.a1.z, .bool s.on1] 39), pt b2 (cel [.int .i64 (anP s i).x, .int .i64 (anP s i).y, .int .i64 (anP s i).z, .bool true] 38), MpR Pl.v i64v m1 w.ls, SpS w.v w.l]) (fun w => w.n ≤ 9 ∧ AnI w.ls w.l (i * 36 + w.n * 4)) (fun w => 9 - w.n) ⟨0, v, ls, l⟩ ⟨Nat.zero_le _, hI⟩ (by repeat' constructor) (Pk.drop (by repeat' constructor)) ?_
   rintro ⟨k, v1, ls1, l1⟩ ⟨hk, hI1⟩
   dsimp only at *
   refine SP.seq ?_
   refine SP.r2 ?_
   refine XL.m ?_
   refine XL.lss_s rfl rfl rfl (fun hc8 => ?_) (fun hc8 => ?_)
   ·refine XL.n2 ?_
    refine SP.t ?_
    refine SP.skip ?_
    refine Jp.then_normal ?_
    refine SP.seq ?_
    refine SP.block ?_
    refine SP.r2 ?_
    refine XL.a ?_
    refine XL.n2 ?_
    refine SP.block ?_
    refine SP.loop (X := AnS) (fun w => [(8, .int .i64 (w.n : Int)), (7, .int .i64 (k : Int)), (12, .int .i64 (i : Int)), (6, .pointer (some ⟨b2, 0, none⟩)), (4, w.v), (1, .pointer (some ⟨b1, 0, none⟩)), (3, .map (some m1)), (11, .agg #[.int .i64 s.a0.x, .int .i64 s.a0.y, .int .i64 s.a0.z, .bool s.on0, .int .i64 s.a1.x, .int .i64 s.a1.y, .int .i64 s.a1.z, .bool s.on1])]) (fun w => [pt b1 (cel [.int .i64 s.a0.x, .int .i64 s.a0.y, .int .i64 s.a0.z, .bool s.on0, .int .i64 s.a1.x, .int .i64 s.a1.y, .int .i64 s.a1.z, .bool s.on1] 39), pt b2 (cel [.int .i64 (anP s i).x, .int .i64 (anP s i).y, .int .i64 (anP s i).z, .bool true] 38), MpR Pl.v i64v m1 w.ls, SpS w.v w.l]) (fun w => w.n ≤ 4 ∧ AnI w.ls w.l (i * 36 + k * 4 + w.n)) (fun w => 4 - w.n) ⟨0, v1, ls1, l1⟩ ⟨Nat.zero_le _, hI1⟩ (by repeat' constructor) (Pk.drop (by repeat' constructor)) ?_
    rintro ⟨y, v2, ls2, l2⟩ ⟨hy, hI2⟩
    dsimp only at *
    have hcn := hI2.cnt (⟨(anP s i).x + (k : Int) / 3 - 1, (y : Int), (anP s i).z + (k : Int) % 3 - 1⟩ : Pl)
    have hl2 := hI2.len
    refine SP.seq ?_
    refine SP.r2 ?_
    refine XL.m ?_
    refine XL.lss_s rfl rfl rfl (fun hc11 => ?_) (fun hc11 => ?_)
    ·refine XL.n2 ?_
     refine SP.t ?_
     refine SP.skip ?_
     refine Jp.then_normal ?_
     refine SP.seq ?_
     refine SP.block ?_
     refine SP.r2 ?_
     refine XL.f ?_
     refine XL.f ?_
     refine XL.l ?_
     refine XL.m ?_
     refine XL.quo (r := _ / 3) rfl rfl (by decide) (quo64 (by omega) (by omega) (by decide)) rfl ?_
     refine XL.add_i64 rfl rfl (by omega) (by omega) rfl ?_
     refine XL.sub_i64 rfl rfl (by omega) (by omega) rfl ?_
     refine XL.m ?_
     refine XL.f ?_
     refine XL.f ?_
     refine XL.l ?_
     refine XL.m ?_
     refine XL.rem (r := _ % 3) rfl rfl (by decide) (rem64 (by omega) (by decide)) rfl ?_
     refine XL.add_i64 rfl rfl (by omega) (by omega) rfl ?_
     refine XL.sub_i64 rfl rfl (by omega) (by omega) rfl ?_
     refine XL.build (by rfl) (by rfl) ?_
     refine XL.alloc (by rfl) (fun b3 => ?_)
     refine XL.sA ?_
     refine XL.n4 ?_
     refine XL.lA ?_
     refine XL.cs rfl (c43 _ _ _) rfl (fun hms => ?_) (fun hms => ?_)
     ·refine XL.m ?_
      refine XL.g ?_
      refine XL.m ?_
      refine XL.g ?_
      refine XL.lA ?_
      refine XL.g ?_
      refine XL.lookup (z := .int .i64 0) (k := (⟨(anP s i).x + (k : Int) / 3 - 1, (y : Int), (anP s i).z + (k : Int) % 3 - 1⟩ : Pl)) (ek := Pl.v) (ev' := i64v) (l := ls2) rfl rfl (by repeat' constructor) (zeroOf (by kernel_rfl)) rfl ?_
      rw [cntL_v]
      refine XL.g ?_
      refine XL.eql_s rfl rfl rfl (fun hz => ?_) (fun hz => ?_)
      ·refine XL.pick_t rfl rfl rfl ?_
       refine XL.n2 ?_
       refine SP.t ?_
       refine SP.seq ?_
       refine SP.any (m := 7) Tryz.fol rfl ?_
       refine XA.tk (i := 0) rfl rfl rfl (fun _ _ _ => XL.move rfl rfl) ?_
       refine XA.o 1 ?_
       refine XL.lA ?_
       refine XL.on ?_
       refine XA.two (i := 2) (j := 4) rfl rfl (by kernel_rfl) rfl rfl ?_ ?_
       ·refine XL.lookup (z := .int .i64 0) (k := (⟨(anP s i).x + (k : Int) / 3 - 1, (y : Int), (anP s i).z + (k : Int) % 3 - 1⟩ : Pl)) (ek := Pl.v) (ev' := i64v) (l := ls2) rfl rfl (by repeat' constructor) (zeroOf (by kernel_rfl)) rfl ?_
        rw [cntL_v]
        refine XL.on ?_
        refine XA.tk (i := 3) rfl rfl rfl (fun _ _ _ => XL.add_i64 rfl rfl (by omega) (by omega) rfl) ?_
        refine XA.o 4 ?_
        refine XL.mapEntry (k := (⟨(anP s i).x + (k : Int) / 3 - 1, (y : Int), (anP s i).z + (k : Int) % 3 - 1⟩ : Pl)) (z := 0) (ek := Pl.v) (ev' := i64v) (l := ls2) rfl rfl (zeroOf (by kernel_rfl)) (by repeat' constructor) rfl (fun ve se => ?_)
        refine XL.on ?_
        refine XA.tk (i := 5) rfl rfl rfl (fun _ _ _ => XL.extract rfl rfl rfl) ?_
        refine XA.o 6 ?_
        refine XL.entryStore (k := (⟨(anP s i).x + (k : Int) / 3 - 1, (y : Int), (anP s i).z + (k : Int) % 3 - 1⟩ : Pl)) (z := 0) (v := cntL ls2 (⟨(anP s i).x + (k : Int) / 3 - 1, (y : Int), (anP s i).z + (k : Int) % 3 - 1⟩ : Pl) + 1) (ek := Pl.v) (ev' := i64v) (l := ls2) rfl rfl rfl (by repeat' constructor) ?_
        refine XL.on ?_
        refine XA.done (by kernel_rfl) ?_
        refine Jp.then_normal ?_
        refine SP.region ?_
        refine XL.m ?_
        refine XL.lA ?_
        refine XL.buildSlice (by rfl) (by rfl) (by rfl) (by decide) rfl (fun b4 => ?_)
        refine XL.append (k := 3) (z := [.int .i64 0, .int .i64 0, .int .i64 0]) (bt := 24) (xs := l2.flatMap Pl.cs) (ys := Pl.cs (⟨(anP s i).x + (k : Int) / 3 - 1, (y : Int), (anP s i).z + (k : Int) % 3 - 1⟩ : Pl)) (m := l2.length) (m2 := 1) rfl rfl ⟨_, Tryz.underlying28⟩ (by repeat' constructor) rfl rfl rfl (by omega) rfl rfl (fun v3 => ?_)
        rw [SpS_snoc v3 l2 (⟨(anP s i).x + (k : Int) / 3 - 1, (y : Int), (anP s i).z + (k : Int) % 3 - 1⟩ : Pl)]
        refine XL.a ?_
        refine XL.nil ?_
        refine Jp.block_normal ?_
        refine Jp.then_normal ?_
        refine SP.region ?_
        refine XL.m ?_
        refine XL.add_i64 rfl rfl (by omega) (by omega) rfl ?_
        refine XL.a ?_
        refine XL.nil ?_
        refine Jp.rd ⟨y + 1, v3, setM ls2 (⟨(anP s i).x + (k : Int) / 3 - 1, (y : Int), (anP s i).z + (k : Int) % 3 - 1⟩ : Pl) (cntL ls2 (⟨(anP s i).x + (k : Int) / 3 - 1, (y : Int), (anP s i).z + (k : Int) % 3 - 1⟩ : Pl) + 1), l2 ++ [(⟨(anP s i).x + (k : Int) / 3 - 1, (y : Int), (anP s i).z + (k : Int) % 3 - 1⟩ : Pl)]⟩ ⟨by show y + 1 ≤ 4; omega, hI2.add hms hz⟩ (by show 4 - (y + 1) < 4 - y; omega)
       ·refine XL.mapEntry (k := (⟨(anP s i).x + (k : Int) / 3 - 1, (y : Int), (anP s i).z + (k : Int) % 3 - 1⟩ : Pl)) (z := 0) (ek := Pl.v) (ev' := i64v) (l := ls2) rfl rfl (zeroOf (by kernel_rfl)) (by repeat' constructor) rfl (fun ve se => ?_)
        refine XL.on ?_
        refine XA.tk (i := 5) rfl rfl rfl (fun _ _ _ => XL.extract rfl rfl rfl) ?_
        refine XA.o 2 ?_
        refine XL.lookupE (k := (⟨(anP s i).x + (k : Int) / 3 - 1, (y : Int), (anP s i).z + (k : Int) % 3 - 1⟩ : Pl)) (z := 0) (ek := Pl.v) (ev' := i64v) (l := ls2) rfl rfl (by repeat' constructor) (zeroOf (by kernel_rfl)) rfl ?_
        rw [show i64v ((getM ls2 (⟨(anP s i).x + (k : Int) / 3 - 1, (y : Int), (anP s i).z + (k : Int) % 3 - 1⟩ : Pl)).getD 0) = .int .i64 (cntL ls2 (⟨(anP s i).x + (k : Int) / 3 - 1, (y : Int), (anP s i).z + (k : Int) % 3 - 1⟩ : Pl)) from rfl]
        refine XL.on ?_
        refine XA.tk (i := 3) rfl rfl rfl (fun _ _ _ => XL.add_i64 rfl rfl (by omega) (by omega) rfl) ?_
        refine XA.o 6 ?_
        refine XL.entryStore (k := (⟨(anP s i).x + (k : Int) / 3 - 1, (y : Int), (anP s i).z + (k : Int) % 3 - 1⟩ : Pl)) (z := 0) (v := cntL ls2 (⟨(anP s i).x + (k : Int) / 3 - 1, (y : Int), (anP s i).z + (k : Int) % 3 - 1⟩ : Pl) + 1) (ek := Pl.v) (ev' := i64v) (l := ls2) rfl rfl rfl (by repeat' constructor) ?_
        refine XL.on ?_
        refine XA.done (by kernel_rfl) ?_
        refine Jp.then_normal ?_
        refine SP.region ?_
        refine XL.m ?_
        refine XL.lA ?_
        refine XL.buildSlice (by rfl) (by rfl) (by rfl) (by decide) rfl (fun b4 => ?_)
        refine XL.append (k := 3) (z := [.int .i64 0, .int .i64 0, .int .i64 0]) (bt := 24) (xs := l2.flatMap Pl.cs) (ys := Pl.cs (⟨(anP s i).x + (k : Int) / 3 - 1, (y : Int), (anP s i).z + (k : Int) % 3 - 1⟩ : Pl)) (m := l2.length) (m2 := 1) rfl rfl ⟨_, Tryz.underlying28⟩ (by repeat' constructor) rfl rfl rfl (by omega) rfl rfl (fun v3 => ?_)
        rw [SpS_snoc v3 l2 (⟨(anP s i).x + (k : Int) / 3 - 1, (y : Int), (anP s i).z + (k : Int) % 3 - 1⟩ : Pl)]
        refine XL.a ?_
        refine XL.nil ?_
        refine Jp.block_normal ?_
        refine Jp.then_normal ?_
        refine SP.region ?_
        refine XL.m ?_
        refine XL.add_i64 rfl rfl (by omega) (by omega) rfl ?_
        refine XL.a ?_
        refine XL.nil ?_
        refine Jp.rd ⟨y + 1, v3, setM ls2 (⟨(anP s i).x + (k : Int) / 3 - 1, (y : Int), (anP s i).z + (k : Int) % 3 - 1⟩ : Pl) (cntL ls2 (⟨(anP s i).x + (k : Int) / 3 - 1, (y : Int), (anP s i).z + (k : Int) % 3 - 1⟩ : Pl) + 1), l2 ++ [(⟨(anP s i).x + (k : Int) / 3 - 1, (y : Int), (anP s i).z + (k : Int) % 3 - 1⟩ : Pl)]⟩ ⟨by show y + 1 ≤ 4; omega, hI2.add hms hz⟩ (by show 4 - (y + 1) < 4 - y; omega)
      ·refine XL.pick_t rfl rfl rfl ?_
       refine XL.n2 ?_
       refine SP.f ?_
       refine SP.skip ?_
       refine Jp.block_normal ?_
       refine Jp.then_normal ?_
       refine SP.region ?_
       refine XL.m ?_
       refine XL.add_i64 rfl rfl (by omega) (by omega) rfl ?_
       refine XL.a ?_
       refine XL.nil ?_
       refine Jp.rd ⟨y + 1, v2, ls2, l2⟩ ⟨by show y + 1 ≤ 4; omega, hI2.mono (Nat.le_succ _)⟩ (by show 4 - (y + 1) < 4 - y; omega)
     ·refine XL.m ?_
      refine XL.k ?_
      refine XL.k ?_
      refine XL.k ?_
      refine XL.k ?_
      refine XL.pick_f rfl rfl rfl ?_
      refine XL.n2 ?_
      refine SP.f ?_
      refine SP.skip ?_
      refine Jp.block_normal ?_
      refine Jp.then_normal ?_
      refine SP.region ?_
      refine XL.m ?_
      refine XL.add_i64 rfl rfl (by omega) (by omega) rfl ?_
      refine XL.a ?_
      refine XL.nil ?_
      refine Jp.rd ⟨y + 1, v2, ls2, l2⟩ ⟨by show y + 1 ≤ 4; omega, hI2.mono (Nat.le_succ _)⟩ (by show 4 - (y + 1) < 4 - y; omega)
    ·refine XL.n2 ?_
     refine SP.f ?_
     refine SP.exit ?_
     refine Jp.then_exit ?_
     refine Jp.then_exit ?_
     refine Jp.block_here ?_
     refine Jp.block_normal ?_
     refine Jp.then_normal ?_
     refine SP.region ?_
     refine XL.m ?_
     refine XL.add_i64 rfl rfl (by omega) (by omega) rfl ?_
     refine XL.a ?_
     refine XL.nil ?_
     refine Jp.rd ⟨k + 1, v2, ls2, l2⟩ ⟨by show k + 1 ≤ 9; omega, hI2.mono (by show i * 36 + k * 4 + y ≤ i * 36 + (k + 1) * 4; omega)⟩ (by show 9 - (k + 1) < 9 - k; omega)
   ·refine XL.n2 ?_
    refine SP.f ?_
    refine SP.exit ?_
    refine Jp.then_exit ?_
    refine Jp.then_exit ?_
    refine Jp.block_here ?_
    refine Jp.block_normal ?_
    refine Jp.then_normal ?_
    refine SP.region ?_
    refine XL.add_i64 rfl rfl (by omega) (by omega) rfl ?_
    refine XL.m ?_
    refine XL.nil ?_
    refine Jp.rd ⟨i + 1, v1, ls1, l1⟩ ⟨by show i + 1 ≤ 2; omega, hI1.mono (by show i * 36 + k * 4 ≤ (i + 1) * 36; omega)⟩ (by show 2 - (i + 1) < 2 - i; omega)
 ·refine XL.n5 ?_
  refine SP.f ?_
  refine SP.exit ?_
  refine Jp.then_exit ?_
  refine Jp.then_exit ?_
  refine Jp.block_here ?_
  refine Jp.n4 ?_
  refine XL.m ?_
  refine XL.cw rfl (c21 v l (by have := hI.len; omega)) (by repeat' constructor) rfl ?_
  rintro _ _ ⟨rfl, o2, ho2, rfl⟩
  refine XL.app1 ?_
  refine XL.n4 ?_
  refine XL.m ?_
  refine XL.a ?_
  refine XL.n2 ?_
  refine SP.ret ?_
  exact Jp.go (Pk.drop (Γ1 := [SpS v o2]) (by repeat' constructor)) (Jp.end1 (.inr rfl) rfl rfl ⟨o2, by have h1 := hI.len; have h2 := ho2.length_eq; omega, fun x hx => hI.may x (ho2.mem_iff.1 hx), rfl⟩)
end Go.Proofs

namespace Go.Proofs
open Go.Bk
structure TiS where
 ok : Bool
 n : Nat
 t : Tk
 bt : Nat
 s : St
 g : Fld
structure TiI (s1 : St) (g : Fld) (w : TiS) : Prop where
 n : w.n ≤ 4096
 t : w.ok = true → 0 ≤ w.t.i ∧ w.t.i < 4096
 like : StLike s1 w.s
 led : LedOk s1 g → LedOk w.s w.g
def TiS.mu (w : TiS) : Nat := if w.ok then w.n + 1 else 0
theorem TiS.mu_lt {ok : Bool} {n k : Nat} {t t' : Tk} {b b' : Nat} {s s' : St} {g g' : Fld} (h : ok = true → n < k) : TiS.mu ⟨ok, n, t, b, s, g⟩ < TiS.mu ⟨true, k, t', b', s', g'⟩ := by
 unfold TiS.mu
 cases ok
 ·simp
 ·have := h rfl; simp; omega
theorem c58 (m r : Nat) (s : St) (g : Fld) (hs : StOk s) (hnow : s.now < 1099511627776) : Tri Tryz.prog 58 [rv m] [Mb m r s, FieldR r g] (fun v Γ' => v = .tuple #[] ∧ ∃ s' g', StLike { s with now := s.now + 1 } s' ∧ (LedOk s g → LedOk s' g') ∧ Γ' = [Mb m r s', FieldR r g']) := by
 refine Pcalls (n := 81) Tryz.func58 rfl rfl rfl fun W0 H0 => ?_
 have hs0 := hs.now
 have hs1 : StOk { s with now := s.now + 1 } := ⟨by show 0 ≤ s.now + 1 ∧ s.now + 1 ≤ 1099511627776; omega, hs.a0, hs.a1⟩
 refine SP.r2 ?_
 refine XL.boxA rfl rfl (fun b1 => ?_)
 refine XL.n4 ?_
 refine XL.f ?_
 refine XL.l ?_
 refine XL.nilCheck rfl rfl ?_
 refine XL.f ?_
 refine XL.l ?_
 refine XL.add_i64 rfl rfl (by omega) (by omega) rfl ?_
 refine XL.nilCheck rfl rfl ?_
 refine XL.f ?_
 refine XL.store (by rfl) (by rfl) (by rfl) ?_
 refine XL.n4 ?_
 refine XL.f ?_
 refine XL.l ?_
 refine XL.nilCheck rfl rfl ?_
 refine XL.f ?_
 refine XL.lA ?_
 refine XL.cw rfl (c84 { s with now := s.now + 1 } hs1) (Pk.nil _) rfl ?_
 rintro _ _ ⟨l, hl, hlm, rfl⟩
 refine XL.app1 ?_
 refine XL.know (Rm.know (Rm.here _ _) (fun _ hq => Sl'.len hq)) ?_
 rintro ⟨a, cl, rfl, _⟩
 refine XL.len (by rfl) (by rfl) ?_
 refine XL.m ?_
 refine XL.n2 ?_
 refine SP.block ?_
 refine SP.loop (X := (Nat × St) × Fld) (fun w => [(25, .int .i64 (w.1.1 : Int)), (24, .int .i64 (l.length : Int)), (23, .slice a l.length cl), (1, .pointer (some ⟨b1, 0, none⟩))]) (fun w => [pt b1 (cel [.iface 24 (mp m), mp m] 114), SpS (.slice a l.length cl) l, Mb m r w.1.2, FieldR r w.2]) (fun w => w.1.1 ≤ l.length ∧ StLike { s with now := s.now + 1 } w.1.2 ∧ (LedOk s g → LedOk w.1.2 w.2)) (fun w => l.length - w.1.1) ((0, { s with now := s.now + 1 }), g) ⟨Nat.zero_le _, StLike.refl _, fun h => h⟩ (by repeat' constructor) (Pk.drop (by repeat' constructor)) ?_
 rintro ⟨⟨i, s2⟩, g2⟩ ⟨hi, hlk, hled⟩
 dsimp only at *
 refine SP.r2 ?_
 refine XL.lss_s rfl rfl rfl (fun hc => ?_) (fun hc => ?_)
 ·obtain ⟨x, hgx⟩ : ∃ t, l[i]? = some t := ⟨_, List.getElem?_eq_getElem (show i < l.length by omega)⟩
  have hxm := hlm x (List.mem_of_getElem? hgx)
  refine XL.know (Rm.know (A := SpS _ l) (by repeat' constructor) (fun _ hq => Sl'.ptr hq (by omega))) ?_
  rintro ⟨bl, cl', el, _⟩
  obtain rfl : a = some ⟨bl, 0, none⟩ := by injection el
  refine XL.n5 ?_
  refine SP.t ?_
  refine SP.skip ?_
  refine Jp.then_normal ?_
  refine SP.seq ?_
  refine SP.block ?_
  refine SP.r2 ?_
  refine XL.indexSl (r := i * 3) rfl rfl (by omega) (by omega) (by simp) rfl ?_
  refine XL.loadA (hs := SbL.flat Pl.len hgx rfl) rfl rfl ?_
  refine XL.alloc (by rfl) (fun b2 => ?_)
  refine XL.sA ?_
  refine XL.n2 ?_
  refine SP.cut (X := Value) (fun w => [(4, w), (3, .pointer (some ⟨b2, 0, none⟩)), (25, .int .i64 (i : Int)), (24, .int .i64 (l.length : Int)), (23, .slice (some ⟨bl, 0, none⟩) l.length cl), (1, .pointer (some ⟨b1, 0, none⟩))]) (fun w => [pt b1 (cel [.iface 24 (mp m), mp m] 114), pt b2 (cel [.int .i64 x.x, .int .i64 x.y, .int .i64 x.z] 34), QA w 4096, SpS (.slice (some ⟨bl, 0, none⟩) l.length cl) l, Mb m r s2, FieldR r g2]) (fun w => True) ?_ ?_
  ·refine SP.any (m := 17) Tryz.fol rfl ?_
   refine XA.tk (i := 0) rfl rfl rfl (fun _ _ _ => XL.fieldAddr (by rfl) (by rfl)) ?_
   refine XA.tk (i := 3) rfl rfl rfl (fun _ _ _ => XL.fieldAddr (by rfl) (by rfl)) ?_
   refine XA.many [1, 2, 4] (by kernel_rfl) rfl ?_
   refine XO.cons (i := 1) rfl rfl ?_ ?_
   ·refine XL.l ?_
    refine XL.on ?_
    refine XA.takeI (i := 8) rfl rfl (by kernel_rfl) (by kernel_rfl) (by kernel_rfl) rfl ?_
    refine XA.tk (i := 9) rfl rfl rfl (fun _ _ _ => XL.move rfl rfl) ?_
    refine XA.two (i := 2) (j := 4) rfl rfl (by kernel_rfl) rfl rfl ?_ ?_
    ·refine XL.lA ?_
     refine XL.on ?_
     refine XA.o 4 ?_
     refine XL.l ?_
     refine XL.on ?_
     refine XA.takeN (i := 5) rfl rfl (by kernel_rfl) (by kernel_rfl) (by kernel_rfl) rfl ?_
     refine XA.tk (i := 6) rfl rfl rfl (fun _ _ _ => XL.fieldAddr (by rfl) (by rfl)) ?_
     refine XA.o 7 ?_
     refine XL.l ?_
     refine XL.on ?_
     refine XA.o 10 ?_
     refine XL.iw rfl rfl (F_Ready m r s2 g2 x _) (by repeat' constructor) rfl ?_
     rintro vr _ ⟨ts, hts, htl, rfl⟩
     refine XL.app3 ?_
     refine XL.on ?_
     refine XA.o 11 ?_
     refine XL.cw rfl (new_q vr ts hts htl) (by repeat' constructor) rfl ?_
     rintro _ _ ⟨qv, eq, rfl, rfl⟩
     refine XL.app1 ?_
     refine XL.on ?_
     refine XA.tk (i := 12) rfl rfl rfl (fun _ _ _ => XL.move rfl rfl) ?_
     refine XA.tk (i := 13) rfl rfl rfl (fun _ _ _ => XL.extract rfl rfl rfl) ?_
     refine XA.tk (i := 14) rfl rfl rfl (fun _ _ _ => XL.extract rfl rfl rfl) ?_
     refine XA.tk (i := 15) rfl rfl rfl (fun _ _ _ => XL.assign rfl rfl) ?_
     refine XA.tk (i := 16) rfl rfl rfl (fun _ _ _ => XL.assign rfl rfl) ?_
     refine XA.done (by kernel_rfl) ?_
     refine Jp.mt qv trivial
    ·refine XL.l ?_
     refine XL.on ?_
     refine XA.takeN (i := 5) rfl rfl (by kernel_rfl) (by kernel_rfl) (by kernel_rfl) rfl ?_
     refine XA.tk (i := 6) rfl rfl rfl (fun _ _ _ => XL.fieldAddr (by rfl) (by rfl)) ?_
     refine XA.two (i := 2) (j := 7) rfl rfl (by kernel_rfl) rfl rfl ?_ ?_
     ·refine XL.lA ?_
      refine XL.on ?_
      refine XA.o 7 ?_
      refine XL.l ?_
      refine XL.on ?_
      refine XA.o 10 ?_
      refine XL.iw rfl rfl (F_Ready m r s2 g2 x _) (by repeat' constructor) rfl ?_
      rintro vr _ ⟨ts, hts, htl, rfl⟩
      refine XL.app3 ?_
      refine XL.on ?_
      refine XA.o 11 ?_
      refine XL.cw rfl (new_q vr ts hts htl) (by repeat' constructor) rfl ?_
      rintro _ _ ⟨qv, eq, rfl, rfl⟩
      refine XL.app1 ?_
      refine XL.on ?_
      refine XA.tk (i := 12) rfl rfl rfl (fun _ _ _ => XL.move rfl rfl) ?_
      refine XA.tk (i := 13) rfl rfl rfl (fun _ _ _ => XL.extract rfl rfl rfl) ?_
      refine XA.tk (i := 14) rfl rfl rfl (fun _ _ _ => XL.extract rfl rfl rfl) ?_
      refine XA.tk (i := 15) rfl rfl rfl (fun _ _ _ => XL.assign rfl rfl) ?_
      refine XA.tk (i := 16) rfl rfl rfl (fun _ _ _ => XL.assign rfl rfl) ?_
      refine XA.done (by kernel_rfl) ?_
      refine Jp.mt qv trivial
     ·refine XL.l ?_
      refine XL.on ?_
      refine XA.o 2 ?_
      refine XL.lA ?_
      refine XL.on ?_
      refine XA.o 10 ?_
      refine XL.iw rfl rfl (F_Ready m r s2 g2 x _) (by repeat' constructor) rfl ?_
      rintro vr _ ⟨ts, hts, htl, rfl⟩
      refine XL.app3 ?_
      refine XL.on ?_
      refine XA.o 11 ?_
      refine XL.cw rfl (new_q vr ts hts htl) (by repeat' constructor) rfl ?_
      rintro _ _ ⟨qv, eq, rfl, rfl⟩
      refine XL.app1 ?_
      refine XL.on ?_
      refine XA.tk (i := 12) rfl rfl rfl (fun _ _ _ => XL.move rfl rfl) ?_
      refine XA.tk (i := 13) rfl rfl rfl (fun _ _ _ => XL.extract rfl rfl rfl) ?_
      refine XA.tk (i := 14) rfl rfl rfl (fun _ _ _ => XL.extract rfl rfl rfl) ?_
      refine XA.tk (i := 15) rfl rfl rfl (fun _ _ _ => XL.assign rfl rfl) ?_
      refine XA.tk (i := 16) rfl rfl rfl (fun _ _ _ => XL.assign rfl rfl) ?_
      refine XA.done (by kernel_rfl) ?_
      refine Jp.mt qv trivial
   refine XO.cons (i := 2) rfl rfl ?_ ?_
   ·refine XL.lA ?_
    refine XL.on ?_
    refine XA.two (i := 1) (j := 4) rfl rfl (by kernel_rfl) rfl rfl ?_ ?_
    ·refine XL.l ?_
     refine XL.on ?_
     refine XA.takeI (i := 8) rfl rfl (by kernel_rfl) (by kernel_rfl) (by kernel_rfl) rfl ?_
     refine XA.tk (i := 9) rfl rfl rfl (fun _ _ _ => XL.move rfl rfl) ?_
     refine XA.o 4 ?_
     refine XL.l ?_
     refine XL.on ?_
     refine XA.takeN (i := 5) rfl rfl (by kernel_rfl) (by kernel_rfl) (by kernel_rfl) rfl ?_
     refine XA.tk (i := 6) rfl rfl rfl (fun _ _ _ => XL.fieldAddr (by rfl) (by rfl)) ?_
     refine XA.o 7 ?_
     refine XL.l ?_
     refine XL.on ?_
     refine XA.o 10 ?_
     refine XL.iw rfl rfl (F_Ready m r s2 g2 x _) (by repeat' constructor) rfl ?_
     rintro vr _ ⟨ts, hts, htl, rfl⟩
     refine XL.app3 ?_
     refine XL.on ?_
     refine XA.o 11 ?_
     refine XL.cw rfl (new_q vr ts hts htl) (by repeat' constructor) rfl ?_
     rintro _ _ ⟨qv, eq, rfl, rfl⟩
     refine XL.app1 ?_
     refine XL.on ?_
     refine XA.tk (i := 12) rfl rfl rfl (fun _ _ _ => XL.move rfl rfl) ?_
     refine XA.tk (i := 13) rfl rfl rfl (fun _ _ _ => XL.extract rfl rfl rfl) ?_
     refine XA.tk (i := 14) rfl rfl rfl (fun _ _ _ => XL.extract rfl rfl rfl) ?_
     refine XA.tk (i := 15) rfl rfl rfl (fun _ _ _ => XL.assign rfl rfl) ?_
     refine XA.tk (i := 16) rfl rfl rfl (fun _ _ _ => XL.assign rfl rfl) ?_
     refine XA.done (by kernel_rfl) ?_
     refine Jp.mt qv trivial
    ·refine XL.l ?_
     refine XL.on ?_
     refine XA.takeN (i := 5) rfl rfl (by kernel_rfl) (by kernel_rfl) (by kernel_rfl) rfl ?_
     refine XA.tk (i := 6) rfl rfl rfl (fun _ _ _ => XL.fieldAddr (by rfl) (by rfl)) ?_
     refine XA.two (i := 1) (j := 7) rfl rfl (by kernel_rfl) rfl rfl ?_ ?_
     ·refine XL.l ?_
      refine XL.on ?_
      refine XA.takeI (i := 8) rfl rfl (by kernel_rfl) (by kernel_rfl) (by kernel_rfl) rfl ?_
      refine XA.tk (i := 9) rfl rfl rfl (fun _ _ _ => XL.move rfl rfl) ?_
      refine XA.o 7 ?_
      refine XL.l ?_
      refine XL.on ?_
      refine XA.o 10 ?_
      refine XL.iw rfl rfl (F_Ready m r s2 g2 x _) (by repeat' constructor) rfl ?_
      rintro vr _ ⟨ts, hts, htl, rfl⟩
      refine XL.app3 ?_
      refine XL.on ?_
      refine XA.o 11 ?_
      refine XL.cw rfl (new_q vr ts hts htl) (by repeat' constructor) rfl ?_
      rintro _ _ ⟨qv, eq, rfl, rfl⟩
      refine XL.app1 ?_
      refine XL.on ?_
      refine XA.tk (i := 12) rfl rfl rfl (fun _ _ _ => XL.move rfl rfl) ?_
      refine XA.tk (i := 13) rfl rfl rfl (fun _ _ _ => XL.extract rfl rfl rfl) ?_
      refine XA.tk (i := 14) rfl rfl rfl (fun _ _ _ => XL.extract rfl rfl rfl) ?_
      refine XA.tk (i := 15) rfl rfl rfl (fun _ _ _ => XL.assign rfl rfl) ?_
      refine XA.tk (i := 16) rfl rfl rfl (fun _ _ _ => XL.assign rfl rfl) ?_
      refine XA.done (by kernel_rfl) ?_
      refine Jp.mt qv trivial
     ·refine XL.l ?_
      refine XL.on ?_
      refine XA.o 1 ?_
      refine XL.l ?_
      refine XL.on ?_
      refine XA.takeI (i := 8) rfl rfl (by kernel_rfl) (by kernel_rfl) (by kernel_rfl) rfl ?_
      refine XA.tk (i := 9) rfl rfl rfl (fun _ _ _ => XL.move rfl rfl) ?_
      refine XA.o 10 ?_
      refine XL.iw rfl rfl (F_Ready m r s2 g2 x _) (by repeat' constructor) rfl ?_
      rintro vr _ ⟨ts, hts, htl, rfl⟩
      refine XL.app3 ?_
      refine XL.on ?_
      refine XA.o 11 ?_
      refine XL.cw rfl (new_q vr ts hts htl) (by repeat' constructor) rfl ?_
      rintro _ _ ⟨qv, eq, rfl, rfl⟩
      refine XL.app1 ?_
      refine XL.on ?_
      refine XA.tk (i := 12) rfl rfl rfl (fun _ _ _ => XL.move rfl rfl) ?_
      refine XA.tk (i := 13) rfl rfl rfl (fun _ _ _ => XL.extract rfl rfl rfl) ?_
      refine XA.tk (i := 14) rfl rfl rfl (fun _ _ _ => XL.extract rfl rfl rfl) ?_
      refine XA.tk (i := 15) rfl rfl rfl (fun _ _ _ => XL.assign rfl rfl) ?_
      refine XA.tk (i := 16) rfl rfl rfl (fun _ _ _ => XL.assign rfl rfl) ?_
      refine XA.done (by kernel_rfl) ?_
      refine Jp.mt qv trivial
   refine XO.cons (i := 4) rfl rfl ?_ ?_
   ·refine XL.l ?_
    refine XL.on ?_
    refine XA.takeN (i := 5) rfl rfl (by kernel_rfl) (by kernel_rfl) (by kernel_rfl) rfl ?_
    refine XA.tk (i := 6) rfl rfl rfl (fun _ _ _ => XL.fieldAddr (by rfl) (by rfl)) ?_
    refine XA.many [1, 2, 7] (by kernel_rfl) rfl ?_
    refine XO.cons (i := 1) rfl rfl ?_ ?_
    ·refine XL.l ?_
     refine XL.on ?_
     refine XA.takeI (i := 8) rfl rfl (by kernel_rfl) (by kernel_rfl) (by kernel_rfl) rfl ?_
     refine XA.tk (i := 9) rfl rfl rfl (fun _ _ _ => XL.move rfl rfl) ?_
     refine XA.two (i := 2) (j := 7) rfl rfl (by kernel_rfl) rfl rfl ?_ ?_
     ·refine XL.lA ?_
      refine XL.on ?_
      refine XA.o 7 ?_
      refine XL.l ?_
      refine XL.on ?_
      refine XA.o 10 ?_
      refine XL.iw rfl rfl (F_Ready m r s2 g2 x _) (by repeat' constructor) rfl ?_
      rintro vr _ ⟨ts, hts, htl, rfl⟩
      refine XL.app3 ?_
      refine XL.on ?_
      refine XA.o 11 ?_
      refine XL.cw rfl (new_q vr ts hts htl) (by repeat' constructor) rfl ?_
      rintro _ _ ⟨qv, eq, rfl, rfl⟩
      refine XL.app1 ?_
      refine XL.on ?_
      refine XA.tk (i := 12) rfl rfl rfl (fun _ _ _ => XL.move rfl rfl) ?_
      refine XA.tk (i := 13) rfl rfl rfl (fun _ _ _ => XL.extract rfl rfl rfl) ?_
      refine XA.tk (i := 14) rfl rfl rfl (fun _ _ _ => XL.extract rfl rfl rfl) ?_
      refine XA.tk (i := 15) rfl rfl rfl (fun _ _ _ => XL.assign rfl rfl) ?_
      refine XA.tk (i := 16) rfl rfl rfl (fun _ _ _ => XL.assign rfl rfl) ?_
      refine XA.done (by kernel_rfl) ?_
      refine Jp.mt qv trivial
     ·refine XL.l ?_
      refine XL.on ?_
      refine XA.o 2 ?_
      refine XL.lA ?_
      refine XL.on ?_
      refine XA.o 10 ?_
      refine XL.iw rfl rfl (F_Ready m r s2 g2 x _) (by repeat' constructor) rfl ?_
      rintro vr _ ⟨ts, hts, htl, rfl⟩
      refine XL.app3 ?_
      refine XL.on ?_
      refine XA.o 11 ?_
      refine XL.cw rfl (new_q vr ts hts htl) (by repeat' constructor) rfl ?_
      rintro _ _ ⟨qv, eq, rfl, rfl⟩
      refine XL.app1 ?_
      refine XL.on ?_
      refine XA.tk (i := 12) rfl rfl rfl (fun _ _ _ => XL.move rfl rfl) ?_
      refine XA.tk (i := 13) rfl rfl rfl (fun _ _ _ => XL.extract rfl rfl rfl) ?_
      refine XA.tk (i := 14) rfl rfl rfl (fun _ _ _ => XL.extract rfl rfl rfl) ?_
      refine XA.tk (i := 15) rfl rfl rfl (fun _ _ _ => XL.assign rfl rfl) ?_
      refine XA.tk (i := 16) rfl rfl rfl (fun _ _ _ => XL.assign rfl rfl) ?_
      refine XA.done (by kernel_rfl) ?_
      refine Jp.mt qv trivial
    refine XO.cons (i := 2) rfl rfl ?_ ?_
    ·refine XL.lA ?_
     refine XL.on ?_
     refine XA.two (i := 1) (j := 7) rfl rfl (by kernel_rfl) rfl rfl ?_ ?_
     ·refine XL.l ?_
      refine XL.on ?_
      refine XA.takeI (i := 8) rfl rfl (by kernel_rfl) (by kernel_rfl) (by kernel_rfl) rfl ?_
      refine XA.tk (i := 9) rfl rfl rfl (fun _ _ _ => XL.move rfl rfl) ?_
      refine XA.o 7 ?_
      refine XL.l ?_
      refine XL.on ?_
      refine XA.o 10 ?_
      refine XL.iw rfl rfl (F_Ready m r s2 g2 x _) (by repeat' constructor) rfl ?_
      rintro vr _ ⟨ts, hts, htl, rfl⟩
      refine XL.app3 ?_
      refine XL.on ?_
      refine XA.o 11 ?_
      refine XL.cw rfl (new_q vr ts hts htl) (by repeat' constructor) rfl ?_
      rintro _ _ ⟨qv, eq, rfl, rfl⟩
      refine XL.app1 ?_
      refine XL.on ?_
      refine XA.tk (i := 12) rfl rfl rfl (fun _ _ _ => XL.move rfl rfl) ?_
      refine XA.tk (i := 13) rfl rfl rfl (fun _ _ _ => XL.extract rfl rfl rfl) ?_
      refine XA.tk (i := 14) rfl rfl rfl (fun _ _ _ => XL.extract rfl rfl rfl) ?_
      refine XA.tk (i := 15) rfl rfl rfl (fun _ _ _ => XL.assign rfl rfl) ?_
      refine XA.tk (i := 16) rfl rfl rfl (fun _ _ _ => XL.assign rfl rfl) ?_
      refine XA.done (by kernel_rfl) ?_
      refine Jp.mt qv trivial
     ·refine XL.l ?_
      refine XL.on ?_
      refine XA.o 1 ?_
      refine XL.l ?_
      refine XL.on ?_
      refine XA.takeI (i := 8) rfl rfl (by kernel_rfl) (by kernel_rfl) (by kernel_rfl) rfl ?_
      refine XA.tk (i := 9) rfl rfl rfl (fun _ _ _ => XL.move rfl rfl) ?_
      refine XA.o 10 ?_
      refine XL.iw rfl rfl (F_Ready m r s2 g2 x _) (by repeat' constructor) rfl ?_
      rintro vr _ ⟨ts, hts, htl, rfl⟩
      refine XL.app3 ?_
      refine XL.on ?_
      refine XA.o 11 ?_
      refine XL.cw rfl (new_q vr ts hts htl) (by repeat' constructor) rfl ?_
      rintro _ _ ⟨qv, eq, rfl, rfl⟩
      refine XL.app1 ?_
      refine XL.on ?_
      refine XA.tk (i := 12) rfl rfl rfl (fun _ _ _ => XL.move rfl rfl) ?_
      refine XA.tk (i := 13) rfl rfl rfl (fun _ _ _ => XL.extract rfl rfl rfl) ?_
      refine XA.tk (i := 14) rfl rfl rfl (fun _ _ _ => XL.extract rfl rfl rfl) ?_
      refine XA.tk (i := 15) rfl rfl rfl (fun _ _ _ => XL.assign rfl rfl) ?_
      refine XA.tk (i := 16) rfl rfl rfl (fun _ _ _ => XL.assign rfl rfl) ?_
      refine XA.done (by kernel_rfl) ?_
      refine Jp.mt qv trivial
    refine XO.cons (i := 7) rfl rfl ?_ ?_
    ·refine XL.l ?_
     refine XL.on ?_
     refine XA.two (i := 1) (j := 2) rfl rfl (by kernel_rfl) rfl rfl ?_ ?_
     ·refine XL.l ?_
      refine XL.on ?_
      refine XA.takeI (i := 8) rfl rfl (by kernel_rfl) (by kernel_rfl) (by kernel_rfl) rfl ?_
      refine XA.tk (i := 9) rfl rfl rfl (fun _ _ _ => XL.move rfl rfl) ?_
      refine XA.o 2 ?_
      refine XL.lA ?_
      refine XL.on ?_
      refine XA.o 10 ?_
      refine XL.iw rfl rfl (F_Ready m r s2 g2 x _) (by repeat' constructor) rfl ?_
      rintro vr _ ⟨ts, hts, htl, rfl⟩
      refine XL.app3 ?_
      refine XL.on ?_
      refine XA.o 11 ?_
      refine XL.cw rfl (new_q vr ts hts htl) (by repeat' constructor) rfl ?_
      rintro _ _ ⟨qv, eq, rfl, rfl⟩
      refine XL.app1 ?_
      refine XL.on ?_
      refine XA.tk (i := 12) rfl rfl rfl (fun _ _ _ => XL.move rfl rfl) ?_
      refine XA.tk (i := 13) rfl rfl rfl (fun _ _ _ => XL.extract rfl rfl rfl) ?_
      refine XA.tk (i := 14) rfl rfl rfl (fun _ _ _ => XL.extract rfl rfl rfl) ?_
      refine XA.tk (i := 15) rfl rfl rfl (fun _ _ _ => XL.assign rfl rfl) ?_
      refine XA.tk (i := 16) rfl rfl rfl (fun _ _ _ => XL.assign rfl rfl) ?_
      refine XA.done (by kernel_rfl) ?_
      refine Jp.mt qv trivial
     ·refine XL.lA ?_
      refine XL.on ?_
      refine XA.o 1 ?_
      refine XL.l ?_
      refine XL.on ?_
      refine XA.takeI (i := 8) rfl rfl (by kernel_rfl) (by kernel_rfl) (by kernel_rfl) rfl ?_
      refine XA.tk (i := 9) rfl rfl rfl (fun _ _ _ => XL.move rfl rfl) ?_
      refine XA.o 10 ?_
      refine XL.iw rfl rfl (F_Ready m r s2 g2 x _) (by repeat' constructor) rfl ?_
      rintro vr _ ⟨ts, hts, htl, rfl⟩
      refine XL.app3 ?_
      refine XL.on ?_
      refine XA.o 11 ?_
      refine XL.cw rfl (new_q vr ts hts htl) (by repeat' constructor) rfl ?_
      rintro _ _ ⟨qv, eq, rfl, rfl⟩
      refine XL.app1 ?_
      refine XL.on ?_
      refine XA.tk (i := 12) rfl rfl rfl (fun _ _ _ => XL.move rfl rfl) ?_
      refine XA.tk (i := 13) rfl rfl rfl (fun _ _ _ => XL.extract rfl rfl rfl) ?_
      refine XA.tk (i := 14) rfl rfl rfl (fun _ _ _ => XL.extract rfl rfl rfl) ?_
      refine XA.tk (i := 15) rfl rfl rfl (fun _ _ _ => XL.assign rfl rfl) ?_
      refine XA.tk (i := 16) rfl rfl rfl (fun _ _ _ => XL.assign rfl rfl) ?_
      refine XA.done (by kernel_rfl) ?_
      refine Jp.mt qv trivial
    exact XO.nil
   exact XO.nil
  ·rintro qv _
   refine SP.r2 ?_
   refine XL.m ?_
   refine XL.f ?_
   refine XL.l ?_
   refine XL.nilCheck rfl rfl ?_
   refine XL.f ?_
   refine XL.l ?_
   refine XL.cw rfl (take_q qv 4096 _) (by repeat' constructor) rfl ?_
   rintro _ _ ⟨t, ok, n1, rfl, hn1, hok, rfl⟩
   refine XL.app1 ?_
   refine XL.m ?_
   refine XL.x ?_
   refine XL.x ?_
   refine XL.alloc (by rfl) (fun bt => ?_)
   refine XL.sA ?_
   refine XL.a ?_
   refine XL.n2 ?_
   refine SP.block ?_
   refine SP.loop (X := TiS) (fun w => [(7, .bool w.ok), (6, .pointer (some ⟨w.bt, 0, none⟩)), (4, qv), (3, .pointer (some ⟨b2, 0, none⟩)), (25, .int .i64 (i : Int)), (24, .int .i64 (l.length : Int)), (23, .slice (some ⟨bl, 0, none⟩) l.length cl), (1, .pointer (some ⟨b1, 0, none⟩))]) (fun w => [pt b1 (cel [.iface 24 (mp m), mp m] 114), pt b2 (cel [.int .i64 x.x, .int .i64 x.y, .int .i64 x.z] 34), pt w.bt (cel w.t.cs 103), QA qv w.n, SpS (.slice (some ⟨bl, 0, none⟩) l.length cl) l, Mb m r w.s, FieldR r w.g]) (fun w => TiI { s with now := s.now + 1 } g w) (fun w => w.mu) ⟨ok, n1, t, bt, s2, g2⟩ ⟨hn1, fun h => (hok h).2, hlk, hled⟩ (by repeat' constructor) (Pk.drop (by repeat' constructor)) ?_
   rintro ⟨ok, n1, t, bt, s3, g3⟩ hT
   have hnow3 : 0 ≤ s3.now ∧ s3.now ≤ 1099511627776 := by have h1 := hT.like.now; have h2 : s3.now = s.now + 1 := h1; omega
   refine SP.seq ?_
   refine SP.r2 ?_
   rcases ok with _ | _
   ·refine XL.m ?_
    refine XL.n2 ?_
    refine SP.f ?_
    refine SP.exit ?_
    refine Jp.then_exit ?_
    refine Jp.then_exit ?_
    refine Jp.block_here ?_
    refine Jp.block_normal ?_
    refine Jp.then_normal ?_
    refine SP.region ?_
    refine XL.add_i64 rfl rfl (by omega) (by omega) rfl ?_
    refine XL.m ?_
    refine XL.nil ?_
    refine Jp.rd ((i + 1, s3), g3) ⟨by show i + 1 ≤ l.length; omega, hT.like, hT.led⟩ (by show l.length - (i + 1) < l.length - i; omega)
   ·refine XL.m ?_
    have ht := hT.t rfl
    refine XL.n2 ?_
    refine SP.t ?_
    refine SP.skip ?_
    refine Jp.then_normal ?_
    refine SP.seq ?_
    refine SP.block ?_
    refine SP.r2 ?_
    refine XL.lA ?_
    refine XL.f ?_
    refine XL.l ?_
    refine XL.cp rfl (c_Of_t x.x x.y x.z t.i ht.1 ht.2 hxm) rfl ?_
    have hpm := of_may hxm ht.1 ht.2
    refine XL.m ?_
    refine XL.x ?_
    refine XL.x ?_
    refine XL.alloc (by rfl) (fun bp => ?_)
    refine XL.sA ?_
    refine XL.a ?_
    refine XL.n4 ?_
    refine XL.f ?_
    refine XL.l ?_
    refine XL.lA ?_
    refine XL.iw rfl rfl (F_Drop m r s3 g3 ⟨x.x * 16 + t.i % 16, x.y * 16 + t.i / 256, x.z * 16 + t.i / 16 % 16⟩ hpm) (by repeat' constructor) rfl ?_
    rintro _ _ ⟨rfl, rfl⟩
    refine XL.app2 ?_
    refine XL.n3 ?_
    refine XL.lA ?_
    refine XL.lA ?_
    refine XL.cw rfl (c88 m r s3 (g3.drop ⟨x.x * 16 + t.i % 16, x.y * 16 + t.i / 256, x.z * 16 + t.i / 16 % 16⟩) ⟨x.x * 16 + t.i % 16, x.y * 16 + t.i / 256, x.z * 16 + t.i / 16 % 16⟩ hpm hnow3) (by repeat' constructor) rfl ?_
    rintro _ _ ⟨rfl, s4, g4, hlk4, hled4, rfl⟩
    refine XL.app2 ?_
    refine XL.nil ?_
    refine Jp.block_normal ?_
    refine Jp.then_normal ?_
    refine SP.seq ?_
    refine SP.r2 ?_
    refine XL.lA ?_
    refine XL.n3 ?_
    refine XL.alloc (by rfl) (fun bt2 => ?_)
    refine XL.sA ?_
    refine XL.n3 ?_
    refine XL.m ?_
    refine XL.f ?_
    refine XL.l ?_
    refine XL.nilCheck rfl rfl ?_
    refine XL.f ?_
    refine XL.l ?_
    refine XL.cw rfl (take_q qv n1 _) (by repeat' constructor) rfl ?_
    rintro _ _ ⟨t2, ok2, n2, rfl, hn2, hok2, rfl⟩
    refine XL.app1 ?_
    refine XL.m ?_
    refine XL.x ?_
    refine XL.x ?_
    refine XL.sA ?_
    refine XL.a ?_
    refine XL.nil ?_
    refine Jp.rd ⟨ok2, n2, t2, bt2, s4, g4⟩ ⟨Nat.le_trans hn2 hT.n, fun h => (hok2 h).2, hT.like.trans hlk4, fun h => hled4 (hT.led h)⟩ (TiS.mu_lt fun h => (hok2 h).1)
 ·refine XL.n5 ?_
  refine SP.f ?_
  refine SP.exit ?_
  refine Jp.then_exit ?_
  refine Jp.then_exit ?_
  refine Jp.block_here ?_
  exact Jp.go (Pk.drop (Γ1 := [Mb m r s2, FieldR r g2]) (by repeat' constructor)) (Jp.end0 (.inl rfl) rfl ⟨rfl, s2, g2, hlk, hled, rfl⟩)
end Go.Proofs

namespace Go.Proofs
open Go.Bk
@[reducible] def CsS (v : Value) (l : List C2) : Asn := Sl' 51 2 v l.length (l.flatMap C2.cs)
theorem c76 (v : Value) (l : List C2) (hr : ∀ x ∈ l, C2.rng x) (hn : l.length ≤ 1000) : Tri Tryz.prog 76 [v, .func (.func 77) #[] #[]] [CsS v l] (fun r Γ' => ∃ n : Nat, r = .int .i64 (n : Int) ∧ n ≤ l.length ∧ Γ' = [CsS v l]) := by
 refine Pcalls (n := 22) Tryz.func76 rfl rfl rfl fun W0 H0 => ?_
 refine SP.slv (by repeat' constructor) ?_
 rintro a cap bb rfl hA hlx
 refine SP.r2 ?_
 refine XL.a ?_
 refine XL.n5 ?_
 refine SP.r2 ?_
 refine XL.m ?_
 refine XL.len (by rfl) (by rfl) ?_
 refine XL.m ?_
 refine XL.n2 ?_
 refine SP.block ?_
 refine SP.loop (X := Nat) (fun i => [(9, .int .i64 (i : Int)), (8, .int .i64 (l.length : Int)), (7, .slice a l.length cap), (0, .slice a l.length cap), (1, .func (.func 77) #[] #[])]) (fun i => [CsS (.slice a l.length cap) l]) (fun i => i ≤ l.length) (fun i => l.length - i) 0 (Nat.zero_le _) (by repeat' constructor) (Pk.drop (by repeat' constructor)) ?_
 rintro i hi
 refine SP.r2 ?_
 refine XL.lss_s rfl rfl rfl (fun h1 => ?_) (fun h1 => ?_)
 ·refine XL.n5 ?_
  refine SP.t ?_
  refine SP.skip ?_
  refine Jp.then_normal ?_
  refine SP.seq ?_
  refine SP.block ?_
  refine SP.r2 ?_
  refine XL.m ?_
  obtain ⟨t, hgt⟩ : ∃ t, l[i]? = some t := ⟨_, List.getElem?_eq_getElem (show i < l.length by omega)⟩
  have htr := hr t (List.mem_of_getElem? hgt)
  unfold C2.rng at htr
  obtain rfl := hA (by omega)
  refine XL.indexSl (r := i * 2) rfl rfl (by omega) (by omega) (by simp) rfl ?_
  refine XL.loadA (hs := SbL.flat C2.len hgt rfl) rfl rfl ?_
  refine XL.alloc (by rfl) (fun b1 => ?_)
  refine XL.a ?_
  refine XL.sA ?_
  refine XL.n4 ?_
  refine XL.m ?_
  refine XL.lA ?_
  refine XL.vs (v1 := []) (v2 := []) rfl rfl (c77 t.a t.b htr.1 htr.2.1 htr.2.2.1 htr.2.2.2) rfl (fun hq => ?_) (fun hq => ?_)
  ·refine XL.not_t rfl rfl ?_
   refine XL.n2 ?_
   refine SP.f ?_
   refine SP.skip ?_
   refine Jp.block_normal ?_
   refine Jp.then_normal ?_
   refine SP.region ?_
   refine XL.add_i64 rfl rfl (by omega) (by omega) rfl ?_
   refine XL.m ?_
   refine XL.nil ?_
   refine Jp.rd (i + 1) (by omega) (by omega)
  ·refine XL.not_f rfl rfl ?_
   refine XL.n2 ?_
   refine SP.t ?_
   refine SP.r2 ?_
   refine XL.m ?_
   refine XL.a ?_
   refine XL.n2 ?_
   refine SP.ret ?_
   refine Jp.block_ret ?_
   refine Jp.then_ret ?_
   refine Jp.then_ret ?_
   refine Jp.block_ret ?_
   refine Jp.then_ret ?_
   exact Jp.go (Pk.drop (by repeat' constructor)) (Jp.end1 (Γ := [CsS (.slice (some ⟨bb, 0, none⟩) l.length cap) l]) (.inr rfl) rfl rfl ⟨i, rfl, by omega, rfl⟩)
 ·refine XL.n5 ?_
  refine SP.f ?_
  refine SP.exit ?_
  refine Jp.then_exit ?_
  refine Jp.then_exit ?_
  refine Jp.block_here ?_
  refine Jp.n4 ?_
  refine XL.m ?_
  refine XL.len (by rfl) (by rfl) ?_
  refine XL.a ?_
  refine XL.n2 ?_
  refine SP.ret ?_
  exact Jp.end1 (.inr rfl) rfl rfl ⟨l.length, rfl, Nat.le_refl _, rfl⟩
theorem c54 (v : Value) (l : List C2) (hr : ∀ x ∈ l, C2.rng x) (hn : l.length ≤ 1000) : Tri Tryz.prog 54 [v] [CsS v l] (fun r Γ' => ∃ (n : Nat) (e : Int), r = .tuple #[.int .i64 (n : Int), .int .i64 e] ∧ (e = 0 → ∃ x, l[n]? = some x ∧ ¬ KMov x.a) ∧ Γ' = [CsS v l]) := by
 refine Pcalls (n := 28) Tryz.func54 rfl rfl rfl fun W0 H0 => ?_
 refine SP.slv (by repeat' constructor) ?_
 rintro a cap bb rfl hA hlx
 refine SP.r2 ?_
 refine XL.a ?_
 refine XL.a ?_
 refine XL.n4 ?_
 refine XL.m ?_
 refine XL.cw rfl (c76 _ l hr hn) (by repeat' constructor) rfl ?_
 rintro _ _ ⟨i, rfl, hi, rfl⟩
 refine XL.app1 ?_
 refine XL.a ?_
 refine XL.n5 ?_
 refine SP.block ?_
 refine SP.r2 ?_
 refine XL.m ?_
 refine XL.eql_s rfl rfl rfl (fun h1 => ?_) (fun h1 => ?_)
 ·refine XL.a ?_
  refine XL.n2 ?_
  refine SP.t ?_
  refine SP.r2 ?_
  refine XL.a ?_
  refine XL.a ?_
  refine XL.n2 ?_
  refine SP.ret ?_
  refine Jp.block_ret ?_
  refine Jp.then_ret ?_
  first | exact Jp.end2 (.inr rfl) rfl rfl rfl ⟨0, 5, rfl, fun h => absurd h (by decide), rfl⟩ | exact Jp.end2 (.inr rfl) rfl rfl rfl ⟨0, 12, rfl, fun h => absurd h (by decide), rfl⟩
 ·refine XL.a ?_
  refine XL.n2 ?_
  refine SP.f ?_
  refine SP.r2 ?_
  refine XL.m ?_
  refine XL.gtr_s rfl rfl rfl (fun h2 => ?_) (fun h2 => ?_)
  ·refine XL.m ?_
   refine XL.k ?_
   refine XL.k ?_
   refine XL.k ?_
   refine XL.k ?_
   refine XL.pick_t rfl rfl rfl ?_
   refine XL.m ?_
   refine XL.k ?_
   refine XL.k ?_
   refine XL.k ?_
   refine XL.k ?_
   refine XL.k ?_
   refine XL.k ?_
   refine XL.pick_t rfl rfl rfl ?_
   refine XL.a ?_
   refine XL.n2 ?_
   refine SP.t ?_
   refine SP.r2 ?_
   refine XL.a ?_
   refine XL.a ?_
   refine XL.n2 ?_
   refine SP.ret ?_
   refine Jp.block_ret ?_
   refine Jp.then_ret ?_
   first | exact Jp.end2 (.inr rfl) rfl rfl rfl ⟨0, 5, rfl, fun h => absurd h (by decide), rfl⟩ | exact Jp.end2 (.inr rfl) rfl rfl rfl ⟨0, 12, rfl, fun h => absurd h (by decide), rfl⟩
  ·refine XL.m ?_
   refine XL.g ?_
   refine XL.m ?_
   refine XL.g ?_
   refine XL.m ?_
   refine XL.g ?_
   refine XL.len (by rfl) (by rfl) ?_
   refine XL.g ?_
   refine XL.eql_s rfl rfl rfl (fun h3 => ?_) (fun h3 => ?_)
   ·refine XL.pick_f rfl rfl rfl ?_
    refine XL.m ?_
    refine XL.k ?_
    refine XL.k ?_
    refine XL.k ?_
    refine XL.k ?_
    refine XL.k ?_
    refine XL.k ?_
    refine XL.pick_t rfl rfl rfl ?_
    refine XL.a ?_
    refine XL.n2 ?_
    refine SP.t ?_
    refine SP.r2 ?_
    refine XL.a ?_
    refine XL.a ?_
    refine XL.n2 ?_
    refine SP.ret ?_
    refine Jp.block_ret ?_
    refine Jp.then_ret ?_
    first | exact Jp.end2 (.inr rfl) rfl rfl rfl ⟨0, 5, rfl, fun h => absurd h (by decide), rfl⟩ | exact Jp.end2 (.inr rfl) rfl rfl rfl ⟨0, 12, rfl, fun h => absurd h (by decide), rfl⟩
   ·refine XL.pick_f rfl rfl rfl ?_
    refine XL.m ?_
    refine XL.g ?_
    refine XL.m ?_
    refine XL.g ?_
    refine XL.m ?_
    refine XL.g ?_
    obtain ⟨t, hgt⟩ : ∃ t, l[i]? = some t := ⟨_, List.getElem?_eq_getElem (show i < l.length by omega)⟩
    have htr := hr t (List.mem_of_getElem? hgt)
    unfold C2.rng at htr
    obtain rfl := hA (by omega)
    refine XL.indexSl (r := i * 2) rfl rfl (by omega) (by omega) (by simp) rfl ?_
    refine XL.g ?_
    refine XL.loadA (hs := SbL.flat C2.len hgt rfl) rfl rfl ?_
    refine XL.g ?_
    refine XL.cs rfl (c78 t.a t.b htr.1 htr.2.1 htr.2.2.1 htr.2.2.2) rfl (fun hy => ?_) (fun hy => ?_)
    ·refine XL.g ?_
     refine XL.not_t rfl rfl ?_
     refine XL.pick_f rfl rfl rfl ?_
     refine XL.a ?_
     refine XL.n2 ?_
     refine SP.f ?_
     refine SP.skip ?_
     refine Jp.block_normal ?_
     refine Jp.n4 ?_
     refine XL.m ?_
     refine XL.a ?_
     refine XL.a ?_
     refine XL.n2 ?_
     refine SP.ret ?_
     exact Jp.end2 (.inr rfl) rfl rfl rfl ⟨i, 0, rfl, fun _ => ⟨t, hgt, (yld_mov hy.2).1⟩, rfl⟩
    ·refine XL.g ?_
     refine XL.not_f rfl rfl ?_
     refine XL.pick_f rfl rfl rfl ?_
     refine XL.a ?_
     refine XL.n2 ?_
     refine SP.t ?_
     refine SP.r2 ?_
     refine XL.a ?_
     refine XL.a ?_
     refine XL.n2 ?_
     refine SP.ret ?_
     refine Jp.block_ret ?_
     refine Jp.then_ret ?_
     first | exact Jp.end2 (.inr rfl) rfl rfl rfl ⟨0, 5, rfl, fun h => absurd h (by decide), rfl⟩ | exact Jp.end2 (.inr rfl) rfl rfl rfl ⟨0, 12, rfl, fun h => absurd h (by decide), rfl⟩
theorem c56_b (s : St) (i : Int) (p : Pl) (hi : i < 0 ∨ 2 ≤ i) : Pur Tryz.prog 56 [.agg #[.int .i64 s.a0.x, .int .i64 s.a0.y, .int .i64 s.a0.z, .bool s.on0, .int .i64 s.a1.x, .int .i64 s.a1.y, .int .i64 s.a1.z, .bool s.on1], .int .i64 i, plv p] (.tuple #[.agg #[.int .i64 0, .int .i64 0, .int .i64 0, .bool false, .int .i64 0, .int .i64 0, .int .i64 0, .bool false], .int .i64 2]) := by
 refine Pcalls (n := 30) Tryz.func56 rfl rfl rfl fun W0 H0 => ?_
 refine SP.r2 ?_
 refine XL.boxA rfl rfl (fun b1 => ?_)
 refine XL.boxA rfl rfl (fun b2 => ?_)
 refine XL.alloc (by rfl) (fun b3 => ?_)
 refine XL.a ?_
 refine XL.n5 ?_
 refine SP.r2 ?_
 refine XL.m ?_
 refine XL.lss_s rfl rfl rfl (fun h1 => ?_) (fun h1 => ?_)
 ·refine XL.m ?_
  refine XL.k ?_
  refine XL.k ?_
  refine XL.pick_t rfl rfl rfl ?_
  refine XL.n2 ?_
  refine SP.t ?_
  refine SP.r2 ?_
  refine XL.build (by rfl) (by rfl) ?_
  refine XL.sA ?_
  refine XL.a ?_
  refine XL.n2 ?_
  refine SP.ret ?_
  refine Jp.then_ret ?_
  refine Jp.pur2 (.inr rfl) rfl (Res.cellA (by rfl)) rfl rfl
 ·refine XL.m ?_
  refine XL.g ?_
  refine XL.m ?_
  refine XL.g ?_
  refine XL.geq_s rfl rfl rfl (fun h2 => ?_) (fun h2 => ?_)
  ·refine XL.pick_f rfl rfl rfl ?_
   refine XL.n2 ?_
   refine SP.t ?_
   refine SP.r2 ?_
   refine XL.build (by rfl) (by rfl) ?_
   refine XL.sA ?_
   refine XL.a ?_
   refine XL.n2 ?_
   refine SP.ret ?_
   refine Jp.then_ret ?_
   refine Jp.pur2 (.inr rfl) rfl (Res.cellA (by rfl)) rfl rfl
  ·exfalso; omega
theorem c56_f (s : St) (i : Int) (p : Pl) (hi : 0 ≤ i ∧ i < 2) (hp : ¬ MayQ p) : Pur Tryz.prog 56 [.agg #[.int .i64 s.a0.x, .int .i64 s.a0.y, .int .i64 s.a0.z, .bool s.on0, .int .i64 s.a1.x, .int .i64 s.a1.y, .int .i64 s.a1.z, .bool s.on1], .int .i64 i, plv p] (.tuple #[.agg #[.int .i64 0, .int .i64 0, .int .i64 0, .bool false, .int .i64 0, .int .i64 0, .int .i64 0, .bool false], .int .i64 10]) := by
 refine Pcalls (n := 30) Tryz.func56 rfl rfl rfl fun W0 H0 => ?_
 refine SP.r2 ?_
 refine XL.boxA rfl rfl (fun b1 => ?_)
 refine XL.boxA rfl rfl (fun b2 => ?_)
 refine XL.alloc (by rfl) (fun b3 => ?_)
 refine XL.a ?_
 refine XL.n5 ?_
 refine SP.r2 ?_
 refine XL.m ?_
 refine XL.lss_f rfl rfl (by omega) rfl ?_
 refine XL.m ?_
 refine XL.g ?_
 refine XL.m ?_
 refine XL.g ?_
 refine XL.geq_f rfl rfl (by omega) rfl ?_
 refine XL.pick_f rfl rfl rfl ?_
 refine XL.n2 ?_
 refine SP.f ?_
 refine SP.skip ?_
 refine Jp.n4 ?_
 refine XL.lA ?_
 refine XL.cp rfl (c_Spot_f p.x p.y p.z hp) rfl ?_
 refine XL.m ?_
 refine XL.x ?_
 refine XL.x ?_
 refine XL.alloc (by rfl) (fun b8 => ?_)
 refine XL.sA ?_
 refine XL.a ?_
 refine XL.n5 ?_
 refine SP.r2 ?_
 refine XL.m ?_
 refine XL.not_f rfl rfl ?_
 refine XL.n2 ?_
 refine SP.t ?_
 refine SP.r2 ?_
 refine XL.build (by rfl) (by rfl) ?_
 refine XL.sA ?_
 refine XL.a ?_
 refine XL.n2 ?_
 refine SP.ret ?_
 refine Jp.then_ret ?_
 refine Jp.pur2 (.inr rfl) rfl (Res.cellA (by rfl)) rfl rfl
def anPut0 (s : St) (p : Pl) : St := { s with a0 := ⟨p.x / 16, p.y / 16, p.z / 16⟩, on0 := true }
def anOff0 (s : St) : St := { s with a0 := ⟨0, 0, 0⟩, on0 := false }
theorem c56_0 (s : St) (p : Pl) (hp : MayQ p) : Pur Tryz.prog 56 [.agg #[.int .i64 s.a0.x, .int .i64 s.a0.y, .int .i64 s.a0.z, .bool s.on0, .int .i64 s.a1.x, .int .i64 s.a1.y, .int .i64 s.a1.z, .bool s.on1], .int .i64 0, plv p] (.tuple #[.agg #[.int .i64 (anPut0 s p).a0.x, .int .i64 (anPut0 s p).a0.y, .int .i64 (anPut0 s p).a0.z, .bool (anPut0 s p).on0, .int .i64 (anPut0 s p).a1.x, .int .i64 (anPut0 s p).a1.y, .int .i64 (anPut0 s p).a1.z, .bool (anPut0 s p).on1], .int .i64 0]) := by
 refine Pcalls (n := 30) Tryz.func56 rfl rfl rfl fun W0 H0 => ?_
 refine SP.r2 ?_
 refine XL.boxA rfl rfl (fun b1 => ?_)
 refine XL.boxA rfl rfl (fun b2 => ?_)
 refine XL.alloc (by rfl) (fun b3 => ?_)
 refine XL.a ?_
 refine XL.n5 ?_
 refine SP.r2 ?_
 refine XL.m ?_
 refine XL.lss_f rfl rfl (by omega) rfl ?_
 refine XL.m ?_
 refine XL.g ?_
 refine XL.m ?_
 refine XL.g ?_
 refine XL.geq_f rfl rfl (by omega) rfl ?_
 refine XL.pick_f rfl rfl rfl ?_
 refine XL.n2 ?_
 refine SP.f ?_
 refine SP.skip ?_
 refine Jp.n4 ?_
 refine XL.lA ?_
 refine XL.cp rfl (c_Spot_t p.x p.y p.z hp) rfl ?_
 refine XL.m ?_
 refine XL.x ?_
 refine XL.x ?_
 refine XL.alloc (by rfl) (fun b8 => ?_)
 refine XL.sA ?_
 refine XL.a ?_
 refine XL.n5 ?_
 refine SP.r2 ?_
 refine XL.m ?_
 refine XL.not_t rfl rfl ?_
 refine XL.n2 ?_
 refine SP.f ?_
 refine SP.skip ?_
 refine Jp.n4 ?_
 refine XL.m ?_
 refine XL.lA ?_
 refine XL.build (by rfl) (by rfl) ?_
 refine XL.indexArr (r := 0) rfl rfl (by decide) (by decide) rfl rfl ?_
 refine XL.sA ?_
 refine XL.n4 ?_
 refine XL.lA ?_
 refine XL.sA ?_
 refine XL.a ?_
 refine XL.n2 ?_
 refine SP.ret ?_
 refine Jp.pur2 (.inr rfl) rfl (Res.cellA (by rfl)) rfl rfl
theorem c57_0 (s : St) : Pur Tryz.prog 57 [.agg #[.int .i64 s.a0.x, .int .i64 s.a0.y, .int .i64 s.a0.z, .bool s.on0, .int .i64 s.a1.x, .int .i64 s.a1.y, .int .i64 s.a1.z, .bool s.on1], .int .i64 0] (.tuple #[.agg #[.int .i64 (anOff0 s).a0.x, .int .i64 (anOff0 s).a0.y, .int .i64 (anOff0 s).a0.z, .bool (anOff0 s).on0, .int .i64 (anOff0 s).a1.x, .int .i64 (anOff0 s).a1.y, .int .i64 (anOff0 s).a1.z, .bool (anOff0 s).on1], .int .i64 0]) := by
 refine Pcalls (n := 17) Tryz.func57 rfl rfl rfl fun W0 H0 => ?_
 refine SP.r2 ?_
 refine XL.boxA rfl rfl (fun b1 => ?_)
 refine XL.alloc (by rfl) (fun b2 => ?_)
 refine XL.a ?_
 refine XL.n5 ?_
 refine SP.r2 ?_
 refine XL.m ?_
 refine XL.lss_f rfl rfl (by omega) rfl ?_
 refine XL.m ?_
 refine XL.g ?_
 refine XL.m ?_
 refine XL.g ?_
 refine XL.geq_f rfl rfl (by omega) rfl ?_
 refine XL.pick_f rfl rfl rfl ?_
 refine XL.n2 ?_
 refine SP.f ?_
 refine SP.skip ?_
 refine Jp.n4 ?_
 refine XL.m ?_
 refine XL.build (by rfl) (by rfl) ?_
 refine XL.indexArr (r := 0) rfl rfl (by decide) (by decide) rfl rfl ?_
 refine XL.sA ?_
 refine XL.n4 ?_
 refine XL.lA ?_
 refine XL.sA ?_
 refine XL.a ?_
 refine XL.n2 ?_
 refine SP.ret ?_
 refine Jp.pur2 (.inr rfl) rfl (Res.cellA (by rfl)) rfl rfl
def anPut1 (s : St) (p : Pl) : St := { s with a1 := ⟨p.x / 16, p.y / 16, p.z / 16⟩, on1 := true }
def anOff1 (s : St) : St := { s with a1 := ⟨0, 0, 0⟩, on1 := false }
theorem c56_1 (s : St) (p : Pl) (hp : MayQ p) : Pur Tryz.prog 56 [.agg #[.int .i64 s.a0.x, .int .i64 s.a0.y, .int .i64 s.a0.z, .bool s.on0, .int .i64 s.a1.x, .int .i64 s.a1.y, .int .i64 s.a1.z, .bool s.on1], .int .i64 1, plv p] (.tuple #[.agg #[.int .i64 (anPut1 s p).a0.x, .int .i64 (anPut1 s p).a0.y, .int .i64 (anPut1 s p).a0.z, .bool (anPut1 s p).on0, .int .i64 (anPut1 s p).a1.x, .int .i64 (anPut1 s p).a1.y, .int .i64 (anPut1 s p).a1.z, .bool (anPut1 s p).on1], .int .i64 0]) := by
 refine Pcalls (n := 30) Tryz.func56 rfl rfl rfl fun W0 H0 => ?_
 refine SP.r2 ?_
 refine XL.boxA rfl rfl (fun b1 => ?_)
 refine XL.boxA rfl rfl (fun b2 => ?_)
 refine XL.alloc (by rfl) (fun b3 => ?_)
 refine XL.a ?_
 refine XL.n5 ?_
 refine SP.r2 ?_
 refine XL.m ?_
 refine XL.lss_f rfl rfl (by omega) rfl ?_
 refine XL.m ?_
 refine XL.g ?_
 refine XL.m ?_
 refine XL.g ?_
 refine XL.geq_f rfl rfl (by omega) rfl ?_
 refine XL.pick_f rfl rfl rfl ?_
 refine XL.n2 ?_
 refine SP.f ?_
 refine SP.skip ?_
 refine Jp.n4 ?_
 refine XL.lA ?_
 refine XL.cp rfl (c_Spot_t p.x p.y p.z hp) rfl ?_
 refine XL.m ?_
 refine XL.x ?_
 refine XL.x ?_
 refine XL.alloc (by rfl) (fun b8 => ?_)
 refine XL.sA ?_
 refine XL.a ?_
 refine XL.n5 ?_
 refine SP.r2 ?_
 refine XL.m ?_
 refine XL.not_t rfl rfl ?_
 refine XL.n2 ?_
 refine SP.f ?_
 refine SP.skip ?_
 refine Jp.n4 ?_
 refine XL.m ?_
 refine XL.lA ?_
 refine XL.build (by rfl) (by rfl) ?_
 refine XL.indexArr (r := 4) rfl rfl (by decide) (by decide) rfl rfl ?_
 refine XL.sA ?_
 refine XL.n4 ?_
 refine XL.lA ?_
 refine XL.sA ?_
 refine XL.a ?_
 refine XL.n2 ?_
 refine SP.ret ?_
 refine Jp.pur2 (.inr rfl) rfl (Res.cellA (by rfl)) rfl rfl
theorem c57_1 (s : St) : Pur Tryz.prog 57 [.agg #[.int .i64 s.a0.x, .int .i64 s.a0.y, .int .i64 s.a0.z, .bool s.on0, .int .i64 s.a1.x, .int .i64 s.a1.y, .int .i64 s.a1.z, .bool s.on1], .int .i64 1] (.tuple #[.agg #[.int .i64 (anOff1 s).a0.x, .int .i64 (anOff1 s).a0.y, .int .i64 (anOff1 s).a0.z, .bool (anOff1 s).on0, .int .i64 (anOff1 s).a1.x, .int .i64 (anOff1 s).a1.y, .int .i64 (anOff1 s).a1.z, .bool (anOff1 s).on1], .int .i64 0]) := by
 refine Pcalls (n := 17) Tryz.func57 rfl rfl rfl fun W0 H0 => ?_
 refine SP.r2 ?_
 refine XL.boxA rfl rfl (fun b1 => ?_)
 refine XL.alloc (by rfl) (fun b2 => ?_)
 refine XL.a ?_
 refine XL.n5 ?_
 refine SP.r2 ?_
 refine XL.m ?_
 refine XL.lss_f rfl rfl (by omega) rfl ?_
 refine XL.m ?_
 refine XL.g ?_
 refine XL.m ?_
 refine XL.g ?_
 refine XL.geq_f rfl rfl (by omega) rfl ?_
 refine XL.pick_f rfl rfl rfl ?_
 refine XL.n2 ?_
 refine SP.f ?_
 refine SP.skip ?_
 refine Jp.n4 ?_
 refine XL.m ?_
 refine XL.build (by rfl) (by rfl) ?_
 refine XL.indexArr (r := 4) rfl rfl (by decide) (by decide) rfl rfl ?_
 refine XL.sA ?_
 refine XL.n4 ?_
 refine XL.lA ?_
 refine XL.sA ?_
 refine XL.a ?_
 refine XL.n2 ?_
 refine SP.ret ?_
 refine Jp.pur2 (.inr rfl) rfl (Res.cellA (by rfl)) rfl rfl
theorem c57_b (s : St) (i : Int) (hi : i < 0 ∨ 2 ≤ i) : Pur Tryz.prog 57 [.agg #[.int .i64 s.a0.x, .int .i64 s.a0.y, .int .i64 s.a0.z, .bool s.on0, .int .i64 s.a1.x, .int .i64 s.a1.y, .int .i64 s.a1.z, .bool s.on1], .int .i64 i] (.tuple #[.agg #[.int .i64 0, .int .i64 0, .int .i64 0, .bool false, .int .i64 0, .int .i64 0, .int .i64 0, .bool false], .int .i64 2]) := by
 refine Pcalls (n := 17) Tryz.func57 rfl rfl rfl fun W0 H0 => ?_
 refine SP.r2 ?_
 refine XL.boxA rfl rfl (fun b1 => ?_)
 refine XL.alloc (by rfl) (fun b2 => ?_)
 refine XL.a ?_
 refine XL.n5 ?_
 refine SP.r2 ?_
 refine XL.m ?_
 refine XL.lss_s rfl rfl rfl (fun h1 => ?_) (fun h1 => ?_)
 ·refine XL.m ?_
  refine XL.k ?_
  refine XL.k ?_
  refine XL.pick_t rfl rfl rfl ?_
  refine XL.n2 ?_
  refine SP.t ?_
  refine SP.r2 ?_
  refine XL.build (by rfl) (by rfl) ?_
  refine XL.sA ?_
  refine XL.a ?_
  refine XL.n2 ?_
  refine SP.ret ?_
  refine Jp.then_ret ?_
  refine Jp.pur2 (.inr rfl) rfl (Res.cellA (by rfl)) rfl rfl
 ·refine XL.m ?_
  refine XL.g ?_
  refine XL.m ?_
  refine XL.g ?_
  refine XL.geq_s rfl rfl rfl (fun h2 => ?_) (fun h2 => ?_)
  ·refine XL.pick_f rfl rfl rfl ?_
   refine XL.n2 ?_
   refine SP.t ?_
   refine SP.r2 ?_
   refine XL.build (by rfl) (by rfl) ?_
   refine XL.sA ?_
   refine XL.a ?_
   refine XL.n2 ?_
   refine SP.ret ?_
   refine Jp.then_ret ?_
   refine Jp.pur2 (.inr rfl) rfl (Res.cellA (by rfl)) rfl rfl
  ·exfalso; omega
structure AnLike (s s' : St) : Prop where
 now : s'.now = s.now
 ok : StOk s → StOk s'
 led : ∀ g, LedOk s g → LedOk s' g
theorem AnLike.refl (s : St) : AnLike s s := ⟨rfl, id, fun _ => id⟩
def anOf (s t : St) : St := { s with a0 := t.a0, on0 := t.on0, a1 := t.a1, on1 := t.on1 }
def zSt : St := ⟨0, 0, ⟨0, 0, 0⟩, false, ⟨0, 0, 0⟩, false, 0, 0, 0, 0⟩
theorem AnLike.of {s t : St} (h0 : StOk s → t.on0 = true → MayS t.a0.x t.a0.y t.a0.z) (h1 : StOk s → t.on1 = true → MayS t.a1.x t.a1.y t.a1.z) : AnLike s (anOf s t) := ⟨rfl, fun h => ⟨h.now, h0 h, h1 h⟩, fun _ => id⟩
theorem c56 (s : St) (i : Int) (p : Pl) : ∃ (t : St) (e : Int), Pur Tryz.prog 56 [.agg #[.int .i64 s.a0.x, .int .i64 s.a0.y, .int .i64 s.a0.z, .bool s.on0, .int .i64 s.a1.x, .int .i64 s.a1.y, .int .i64 s.a1.z, .bool s.on1], .int .i64 i, plv p] (.tuple #[.agg #[.int .i64 t.a0.x, .int .i64 t.a0.y, .int .i64 t.a0.z, .bool t.on0, .int .i64 t.a1.x, .int .i64 t.a1.y, .int .i64 t.a1.z, .bool t.on1], .int .i64 e]) ∧ (e = 0 → AnLike s (anOf s t)) := by
 by_cases hi : i < 0 ∨ 2 ≤ i
 ·exact ⟨zSt, 2, c56_b s i p hi, fun h => absurd h (by decide)⟩
 by_cases hp : MayQ p
 ·have hm : MayS (p.x / 16) (p.y / 16) (p.z / 16) := spot_may hp
  obtain rfl | rfl : i = 0 ∨ i = 1 := by omega
  ·exact ⟨anPut0 s p, 0, c56_0 s p hp, fun _ => AnLike.of (fun _ _ => hm) fun h => h.a1⟩
  ·exact ⟨anPut1 s p, 0, c56_1 s p hp, fun _ => AnLike.of (fun h => h.a0) fun _ _ => hm⟩
 ·exact ⟨zSt, 10, c56_f s i p (by omega) hp, fun h => absurd h (by decide)⟩
theorem c57 (s : St) (i : Int) : ∃ (t : St) (e : Int), Pur Tryz.prog 57 [.agg #[.int .i64 s.a0.x, .int .i64 s.a0.y, .int .i64 s.a0.z, .bool s.on0, .int .i64 s.a1.x, .int .i64 s.a1.y, .int .i64 s.a1.z, .bool s.on1], .int .i64 i] (.tuple #[.agg #[.int .i64 t.a0.x, .int .i64 t.a0.y, .int .i64 t.a0.z, .bool t.on0, .int .i64 t.a1.x, .int .i64 t.a1.y, .int .i64 t.a1.z, .bool t.on1], .int .i64 e]) ∧ (e = 0 → AnLike s (anOf s t)) := by
 by_cases hi : i < 0 ∨ 2 ≤ i
 ·exact ⟨zSt, 2, c57_b s i hi, fun h => absurd h (by decide)⟩
 obtain rfl | rfl : i = 0 ∨ i = 1 := by omega
 ·exact ⟨anOff0 s, 0, c57_0 s, fun _ => AnLike.of (fun _ h => Bool.noConfusion (show false = true from h)) fun h => h.a1⟩
 ·exact ⟨anOff1 s, 0, c57_1 s, fun _ => AnLike.of (fun h => h.a0) fun _ h => Bool.noConfusion (show false = true from h)⟩
theorem c31 (m r : Nat) (s : St) (g : Fld) (i : Int) (p : Pl) : Tri Tryz.prog 31 [mp m, .int .i64 i, plv p] [Mb m r s, FieldR r g] (fun v Γ' => ∃ (s' : St) (e : Int), AnLike s s' ∧ v = .int .i64 e ∧ Γ' = [Mb m r s', FieldR r g]) := by
 refine Pcalls (n := 28) Tryz.func31 rfl rfl rfl fun W0 H0 => ?_
 obtain ⟨t, e, hc, he⟩ := c56 s i p
 refine SP.r2 ?_
 refine XL.boxA rfl rfl (fun b1 => ?_)
 refine XL.a ?_
 refine XL.n5 ?_
 refine SP.r2 ?_
 refine XL.m ?_
 refine XL.pnnil_eql rfl rfl ?_
 refine XL.n2 ?_
 refine SP.f ?_
 refine SP.skip ?_
 refine Jp.then_normal ?_
 refine SP.cut (X := Nat) (fun b => [(8, .int .i64 e), (7, .pointer (some ⟨b, 0, none⟩)), (0, mp m)]) (fun b => [pt b (cel [.int .i64 t.a0.x, .int .i64 t.a0.y, .int .i64 t.a0.z, .bool t.on0, .int .i64 t.a1.x, .int .i64 t.a1.y, .int .i64 t.a1.z, .bool t.on1] 39), Mb m r s, FieldR r g]) (fun b => True) ?_ ?_
 ·refine SP.any (m := 13) Tryz.fol rfl ?_
  refine XA.tk (i := 0) rfl rfl rfl (fun _ _ _ => XL.move rfl rfl) ?_
  refine XA.tk (i := 4) rfl rfl rfl (fun _ _ _ => XL.move rfl rfl) ?_
  refine XA.many [1, 5, 10] (by kernel_rfl) rfl ?_
  refine XO.cons (i := 1) rfl rfl ?_ ?_
  ·refine XL.nilCheck rfl rfl ?_
   refine XL.on ?_
   refine XA.tk (i := 2) rfl rfl rfl (fun _ _ _ => XL.fieldAddr (by rfl) (by rfl)) ?_
   refine XA.many [3, 5, 10] (by kernel_rfl) rfl ?_
   refine XO.cons (i := 3) rfl rfl ?_ ?_
   ·refine XL.lA ?_
    refine XL.on ?_
    refine XA.two (i := 5) (j := 10) rfl rfl (by kernel_rfl) rfl rfl ?_ ?_
    ·refine XL.lA ?_
     refine XL.on ?_
     refine XA.two (i := 6) (j := 10) rfl rfl (by kernel_rfl) rfl rfl ?_ ?_
     ·refine XL.cp rfl hc rfl ?_
      refine XL.on ?_
      refine XA.tk (i := 7) rfl rfl rfl (fun _ _ _ => XL.move rfl rfl) ?_
      refine XA.tk (i := 8) rfl rfl rfl (fun _ _ _ => XL.extract rfl rfl rfl) ?_
      refine XA.tk (i := 9) rfl rfl rfl (fun _ _ _ => XL.extract rfl rfl rfl) ?_
      refine XA.o 10 ?_
      refine XL.alloc (by rfl) (fun b2 => ?_)
      refine XL.on ?_
      refine XA.o 11 ?_
      refine XL.sA ?_
      refine XL.on ?_
      refine XA.tk (i := 12) rfl rfl rfl (fun _ _ _ => XL.assign rfl rfl) ?_
      refine XA.done (by kernel_rfl) ?_
      refine Jp.mt b2 trivial
     ·refine XL.alloc (by rfl) (fun b2 => ?_)
      refine XL.on ?_
      refine XA.o 6 ?_
      refine XL.cp rfl hc rfl ?_
      refine XL.on ?_
      refine XA.tk (i := 7) rfl rfl rfl (fun _ _ _ => XL.move rfl rfl) ?_
      refine XA.tk (i := 8) rfl rfl rfl (fun _ _ _ => XL.extract rfl rfl rfl) ?_
      refine XA.tk (i := 9) rfl rfl rfl (fun _ _ _ => XL.extract rfl rfl rfl) ?_
      refine XA.o 11 ?_
      refine XL.sA ?_
      refine XL.on ?_
      refine XA.tk (i := 12) rfl rfl rfl (fun _ _ _ => XL.assign rfl rfl) ?_
      refine XA.done (by kernel_rfl) ?_
      refine Jp.mt b2 trivial
    ·refine XL.alloc (by rfl) (fun b2 => ?_)
     refine XL.on ?_
     refine XA.o 5 ?_
     refine XL.lA ?_
     refine XL.on ?_
     refine XA.o 6 ?_
     refine XL.cp rfl hc rfl ?_
     refine XL.on ?_
     refine XA.tk (i := 7) rfl rfl rfl (fun _ _ _ => XL.move rfl rfl) ?_
     refine XA.tk (i := 8) rfl rfl rfl (fun _ _ _ => XL.extract rfl rfl rfl) ?_
     refine XA.tk (i := 9) rfl rfl rfl (fun _ _ _ => XL.extract rfl rfl rfl) ?_
     refine XA.o 11 ?_
     refine XL.sA ?_
     refine XL.on ?_
     refine XA.tk (i := 12) rfl rfl rfl (fun _ _ _ => XL.assign rfl rfl) ?_
     refine XA.done (by kernel_rfl) ?_
     refine Jp.mt b2 trivial
   refine XO.cons (i := 5) rfl rfl ?_ ?_
   ·refine XL.lA ?_
    refine XL.on ?_
    refine XA.two (i := 3) (j := 10) rfl rfl (by kernel_rfl) rfl rfl ?_ ?_
    ·refine XL.lA ?_
     refine XL.on ?_
     refine XA.two (i := 6) (j := 10) rfl rfl (by kernel_rfl) rfl rfl ?_ ?_
     ·refine XL.cp rfl hc rfl ?_
      refine XL.on ?_
      refine XA.tk (i := 7) rfl rfl rfl (fun _ _ _ => XL.move rfl rfl) ?_
      refine XA.tk (i := 8) rfl rfl rfl (fun _ _ _ => XL.extract rfl rfl rfl) ?_
      refine XA.tk (i := 9) rfl rfl rfl (fun _ _ _ => XL.extract rfl rfl rfl) ?_
      refine XA.o 10 ?_
      refine XL.alloc (by rfl) (fun b2 => ?_)
      refine XL.on ?_
      refine XA.o 11 ?_
      refine XL.sA ?_
      refine XL.on ?_
      refine XA.tk (i := 12) rfl rfl rfl (fun _ _ _ => XL.assign rfl rfl) ?_
      refine XA.done (by kernel_rfl) ?_
      refine Jp.mt b2 trivial
     ·refine XL.alloc (by rfl) (fun b2 => ?_)
      refine XL.on ?_
      refine XA.o 6 ?_
      refine XL.cp rfl hc rfl ?_
      refine XL.on ?_
      refine XA.tk (i := 7) rfl rfl rfl (fun _ _ _ => XL.move rfl rfl) ?_
      refine XA.tk (i := 8) rfl rfl rfl (fun _ _ _ => XL.extract rfl rfl rfl) ?_
      refine XA.tk (i := 9) rfl rfl rfl (fun _ _ _ => XL.extract rfl rfl rfl) ?_
      refine XA.o 11 ?_
      refine XL.sA ?_
      refine XL.on ?_
      refine XA.tk (i := 12) rfl rfl rfl (fun _ _ _ => XL.assign rfl rfl) ?_
      refine XA.done (by kernel_rfl) ?_
      refine Jp.mt b2 trivial
    ·refine XL.alloc (by rfl) (fun b2 => ?_)
     refine XL.on ?_
     refine XA.o 3 ?_
     refine XL.lA ?_
     refine XL.on ?_
     refine XA.o 6 ?_
     refine XL.cp rfl hc rfl ?_
     refine XL.on ?_
     refine XA.tk (i := 7) rfl rfl rfl (fun _ _ _ => XL.move rfl rfl) ?_
     refine XA.tk (i := 8) rfl rfl rfl (fun _ _ _ => XL.extract rfl rfl rfl) ?_
     refine XA.tk (i := 9) rfl rfl rfl (fun _ _ _ => XL.extract rfl rfl rfl) ?_
     refine XA.o 11 ?_
     refine XL.sA ?_
     refine XL.on ?_
     refine XA.tk (i := 12) rfl rfl rfl (fun _ _ _ => XL.assign rfl rfl) ?_
     refine XA.done (by kernel_rfl) ?_
     refine Jp.mt b2 trivial
   refine XO.cons (i := 10) rfl rfl ?_ ?_
   ·refine XL.alloc (by rfl) (fun b2 => ?_)
    refine XL.on ?_
    refine XA.two (i := 3) (j := 5) rfl rfl (by kernel_rfl) rfl rfl ?_ ?_
    ·refine XL.lA ?_
     refine XL.on ?_
     refine XA.o 5 ?_
     refine XL.lA ?_
     refine XL.on ?_
     refine XA.o 6 ?_
     refine XL.cp rfl hc rfl ?_
     refine XL.on ?_
     refine XA.tk (i := 7) rfl rfl rfl (fun _ _ _ => XL.move rfl rfl) ?_
     refine XA.tk (i := 8) rfl rfl rfl (fun _ _ _ => XL.extract rfl rfl rfl) ?_
     refine XA.tk (i := 9) rfl rfl rfl (fun _ _ _ => XL.extract rfl rfl rfl) ?_
     refine XA.o 11 ?_
     refine XL.sA ?_
     refine XL.on ?_
     refine XA.tk (i := 12) rfl rfl rfl (fun _ _ _ => XL.assign rfl rfl) ?_
     refine XA.done (by kernel_rfl) ?_
     refine Jp.mt b2 trivial
    ·refine XL.lA ?_
     refine XL.on ?_
     refine XA.o 3 ?_
     refine XL.lA ?_
     refine XL.on ?_
     refine XA.o 6 ?_
     refine XL.cp rfl hc rfl ?_
     refine XL.on ?_
     refine XA.tk (i := 7) rfl rfl rfl (fun _ _ _ => XL.move rfl rfl) ?_
     refine XA.tk (i := 8) rfl rfl rfl (fun _ _ _ => XL.extract rfl rfl rfl) ?_
     refine XA.tk (i := 9) rfl rfl rfl (fun _ _ _ => XL.extract rfl rfl rfl) ?_
     refine XA.o 11 ?_
     refine XL.sA ?_
     refine XL.on ?_
     refine XA.tk (i := 12) rfl rfl rfl (fun _ _ _ => XL.assign rfl rfl) ?_
     refine XA.done (by kernel_rfl) ?_
     refine Jp.mt b2 trivial
   exact XO.nil
  refine XO.cons (i := 5) rfl rfl ?_ ?_
  ·refine XL.lA ?_
   refine XL.on ?_
   refine XA.two (i := 1) (j := 10) rfl rfl (by kernel_rfl) rfl rfl ?_ ?_
   ·refine XL.nilCheck rfl rfl ?_
    refine XL.on ?_
    refine XA.tk (i := 2) rfl rfl rfl (fun _ _ _ => XL.fieldAddr (by rfl) (by rfl)) ?_
    refine XA.two (i := 3) (j := 10) rfl rfl (by kernel_rfl) rfl rfl ?_ ?_
    ·refine XL.lA ?_
     refine XL.on ?_
     refine XA.two (i := 6) (j := 10) rfl rfl (by kernel_rfl) rfl rfl ?_ ?_
     ·refine XL.cp rfl hc rfl ?_
      refine XL.on ?_
      refine XA.tk (i := 7) rfl rfl rfl (fun _ _ _ => XL.move rfl rfl) ?_
      refine XA.tk (i := 8) rfl rfl rfl (fun _ _ _ => XL.extract rfl rfl rfl) ?_
      refine XA.tk (i := 9) rfl rfl rfl (fun _ _ _ => XL.extract rfl rfl rfl) ?_
      refine XA.o 10 ?_
      refine XL.alloc (by rfl) (fun b2 => ?_)
      refine XL.on ?_
      refine XA.o 11 ?_
      refine XL.sA ?_
      refine XL.on ?_
      refine XA.tk (i := 12) rfl rfl rfl (fun _ _ _ => XL.assign rfl rfl) ?_
      refine XA.done (by kernel_rfl) ?_
      refine Jp.mt b2 trivial
     ·refine XL.alloc (by rfl) (fun b2 => ?_)
      refine XL.on ?_
      refine XA.o 6 ?_
      refine XL.cp rfl hc rfl ?_
      refine XL.on ?_
      refine XA.tk (i := 7) rfl rfl rfl (fun _ _ _ => XL.move rfl rfl) ?_
      refine XA.tk (i := 8) rfl rfl rfl (fun _ _ _ => XL.extract rfl rfl rfl) ?_
      refine XA.tk (i := 9) rfl rfl rfl (fun _ _ _ => XL.extract rfl rfl rfl) ?_
      refine XA.o 11 ?_
      refine XL.sA ?_
      refine XL.on ?_
      refine XA.tk (i := 12) rfl rfl rfl (fun _ _ _ => XL.assign rfl rfl) ?_
      refine XA.done (by kernel_rfl) ?_
      refine Jp.mt b2 trivial
    ·refine XL.alloc (by rfl) (fun b2 => ?_)
     refine XL.on ?_
     refine XA.o 3 ?_
     refine XL.lA ?_
     refine XL.on ?_
     refine XA.o 6 ?_
     refine XL.cp rfl hc rfl ?_
     refine XL.on ?_
     refine XA.tk (i := 7) rfl rfl rfl (fun _ _ _ => XL.move rfl rfl) ?_
     refine XA.tk (i := 8) rfl rfl rfl (fun _ _ _ => XL.extract rfl rfl rfl) ?_
     refine XA.tk (i := 9) rfl rfl rfl (fun _ _ _ => XL.extract rfl rfl rfl) ?_
     refine XA.o 11 ?_
     refine XL.sA ?_
     refine XL.on ?_
     refine XA.tk (i := 12) rfl rfl rfl (fun _ _ _ => XL.assign rfl rfl) ?_
     refine XA.done (by kernel_rfl) ?_
     refine Jp.mt b2 trivial
   ·refine XL.alloc (by rfl) (fun b2 => ?_)
    refine XL.on ?_
    refine XA.o 1 ?_
    refine XL.nilCheck rfl rfl ?_
    refine XL.on ?_
    refine XA.tk (i := 2) rfl rfl rfl (fun _ _ _ => XL.fieldAddr (by rfl) (by rfl)) ?_
    refine XA.o 3 ?_
    refine XL.lA ?_
    refine XL.on ?_
    refine XA.o 6 ?_
    refine XL.cp rfl hc rfl ?_
    refine XL.on ?_
    refine XA.tk (i := 7) rfl rfl rfl (fun _ _ _ => XL.move rfl rfl) ?_
    refine XA.tk (i := 8) rfl rfl rfl (fun _ _ _ => XL.extract rfl rfl rfl) ?_
    refine XA.tk (i := 9) rfl rfl rfl (fun _ _ _ => XL.extract rfl rfl rfl) ?_
    refine XA.o 11 ?_
    refine XL.sA ?_
    refine XL.on ?_
    refine XA.tk (i := 12) rfl rfl rfl (fun _ _ _ => XL.assign rfl rfl) ?_
    refine XA.done (by kernel_rfl) ?_
    refine Jp.mt b2 trivial
  refine XO.cons (i := 10) rfl rfl ?_ ?_
  ·refine XL.alloc (by rfl) (fun b2 => ?_)
   refine XL.on ?_
   refine XA.two (i := 1) (j := 5) rfl rfl (by kernel_rfl) rfl rfl ?_ ?_
   ·refine XL.nilCheck rfl rfl ?_
    refine XL.on ?_
    refine XA.tk (i := 2) rfl rfl rfl (fun _ _ _ => XL.fieldAddr (by rfl) (by rfl)) ?_
    refine XA.two (i := 3) (j := 5) rfl rfl (by kernel_rfl) rfl rfl ?_ ?_
    ·refine XL.lA ?_
     refine XL.on ?_
     refine XA.o 5 ?_
     refine XL.lA ?_
     refine XL.on ?_
     refine XA.o 6 ?_
     refine XL.cp rfl hc rfl ?_
     refine XL.on ?_
     refine XA.tk (i := 7) rfl rfl rfl (fun _ _ _ => XL.move rfl rfl) ?_
     refine XA.tk (i := 8) rfl rfl rfl (fun _ _ _ => XL.extract rfl rfl rfl) ?_
     refine XA.tk (i := 9) rfl rfl rfl (fun _ _ _ => XL.extract rfl rfl rfl) ?_
     refine XA.o 11 ?_
     refine XL.sA ?_
     refine XL.on ?_
     refine XA.tk (i := 12) rfl rfl rfl (fun _ _ _ => XL.assign rfl rfl) ?_
     refine XA.done (by kernel_rfl) ?_
     refine Jp.mt b2 trivial
    ·refine XL.lA ?_
     refine XL.on ?_
     refine XA.o 3 ?_
     refine XL.lA ?_
     refine XL.on ?_
     refine XA.o 6 ?_
     refine XL.cp rfl hc rfl ?_
     refine XL.on ?_
     refine XA.tk (i := 7) rfl rfl rfl (fun _ _ _ => XL.move rfl rfl) ?_
     refine XA.tk (i := 8) rfl rfl rfl (fun _ _ _ => XL.extract rfl rfl rfl) ?_
     refine XA.tk (i := 9) rfl rfl rfl (fun _ _ _ => XL.extract rfl rfl rfl) ?_
     refine XA.o 11 ?_
     refine XL.sA ?_
     refine XL.on ?_
     refine XA.tk (i := 12) rfl rfl rfl (fun _ _ _ => XL.assign rfl rfl) ?_
     refine XA.done (by kernel_rfl) ?_
     refine Jp.mt b2 trivial
   ·refine XL.lA ?_
    refine XL.on ?_
    refine XA.o 1 ?_
    refine XL.nilCheck rfl rfl ?_
    refine XL.on ?_
    refine XA.tk (i := 2) rfl rfl rfl (fun _ _ _ => XL.fieldAddr (by rfl) (by rfl)) ?_
    refine XA.o 3 ?_
    refine XL.lA ?_
    refine XL.on ?_
    refine XA.o 6 ?_
    refine XL.cp rfl hc rfl ?_
    refine XL.on ?_
    refine XA.tk (i := 7) rfl rfl rfl (fun _ _ _ => XL.move rfl rfl) ?_
    refine XA.tk (i := 8) rfl rfl rfl (fun _ _ _ => XL.extract rfl rfl rfl) ?_
    refine XA.tk (i := 9) rfl rfl rfl (fun _ _ _ => XL.extract rfl rfl rfl) ?_
    refine XA.o 11 ?_
    refine XL.sA ?_
    refine XL.on ?_
    refine XA.tk (i := 12) rfl rfl rfl (fun _ _ _ => XL.assign rfl rfl) ?_
    refine XA.done (by kernel_rfl) ?_
    refine Jp.mt b2 trivial
  exact XO.nil
 ·rintro b2 _
  refine SP.seq ?_
  refine SP.r2 ?_
  refine XL.m ?_
  by_cases he0 : e = 0
  ·subst he0
   refine XL.eql_t rfl rfl rfl rfl ?_
   refine XL.n2 ?_
   refine SP.t ?_
   refine SP.region ?_
   refine XL.m ?_
   refine XL.lA ?_
   refine XL.nilCheck rfl rfl ?_
   refine XL.f ?_
   refine XL.sA ?_
   refine XL.n4 ?_
   refine XL.m ?_
   refine XL.a ?_
   refine XL.n2 ?_
   refine SP.ret ?_
   exact Jp.go (Pk.drop (by repeat' constructor)) (Jp.end1 (Γ := [Mb m r (anOf s t), FieldR r g]) (.inr rfl) rfl rfl ⟨anOf s t, 0, he rfl, rfl, rfl⟩)
  ·refine XL.eql_f rfl rfl he0 rfl ?_
   refine XL.n2 ?_
   refine SP.f ?_
   refine SP.skip ?_
   refine Jp.n4 ?_
   refine XL.m ?_
   refine XL.a ?_
   refine XL.n2 ?_
   refine SP.ret ?_
   exact Jp.go (Pk.drop (by repeat' constructor)) (Jp.end1 (Γ := [Mb m r s, FieldR r g]) (.inr rfl) rfl rfl ⟨s, e, AnLike.refl s, rfl, rfl⟩)
theorem c32 (m r : Nat) (s : St) (g : Fld) (i : Int) : Tri Tryz.prog 32 [mp m, .int .i64 i] [Mb m r s, FieldR r g] (fun v Γ' => ∃ (s' : St) (e : Int), AnLike s s' ∧ v = .int .i64 e ∧ Γ' = [Mb m r s', FieldR r g]) := by
 refine Pcalls (n := 25) Tryz.func32 rfl rfl rfl fun W0 H0 => ?_
 obtain ⟨t, e, hc, he⟩ := c57 s i
 refine SP.r2 ?_
 refine XL.a ?_
 refine XL.n5 ?_
 refine SP.r2 ?_
 refine XL.m ?_
 refine XL.pnnil_eql rfl rfl ?_
 refine XL.n2 ?_
 refine SP.f ?_
 refine SP.skip ?_
 refine Jp.n4 ?_
 refine XL.m ?_
 refine XL.nilCheck rfl rfl ?_
 refine XL.f ?_
 refine XL.lA ?_
 refine XL.m ?_
 refine XL.cp rfl hc rfl ?_
 refine XL.m ?_
 refine XL.x ?_
 refine XL.x ?_
 refine XL.alloc (by rfl) (fun b1 => ?_)
 refine XL.sA ?_
 refine XL.a ?_
 refine XL.n5 ?_
 refine SP.r2 ?_
 refine XL.m ?_
 by_cases he0 : e = 0
 ·subst he0
  refine XL.eql_t rfl rfl rfl rfl ?_
  refine XL.n2 ?_
  refine SP.t ?_
  refine SP.region ?_
  refine XL.m ?_
  refine XL.lA ?_
  refine XL.nilCheck rfl rfl ?_
  refine XL.f ?_
  refine XL.sA ?_
  refine XL.n4 ?_
  refine XL.m ?_
  refine XL.a ?_
  refine XL.n2 ?_
  refine SP.ret ?_
  exact Jp.go (Pk.drop (by repeat' constructor)) (Jp.end1 (Γ := [Mb m r (anOf s t), FieldR r g]) (.inr rfl) rfl rfl ⟨anOf s t, 0, he rfl, rfl, rfl⟩)
 ·refine XL.eql_f rfl rfl he0 rfl ?_
  refine XL.n2 ?_
  refine SP.f ?_
  refine SP.skip ?_
  refine Jp.n4 ?_
  refine XL.m ?_
  refine XL.a ?_
  refine XL.n2 ?_
  refine SP.ret ?_
  exact Jp.go (Pk.drop (by repeat' constructor)) (Jp.end1 (Γ := [Mb m r s, FieldR r g]) (.inr rfl) rfl rfl ⟨s, e, AnLike.refl s, rfl, rfl⟩)
end Go.Proofs

namespace Go.Proofs
open Go.Bk
theorem Jp.end4G {P : Program} {w0 : World} {h0 : Hp} {n : Nat} {L : Sl} {Γ Γ' : List Asn} {fn : Func} {e : Exit} {post : Value → List Asn → Prop} {r1 r2 r3 r4 : ResultVar} {v1 v2 v3 v4 : Value} (he : e = .normal ∨ e = .ret) (hr : fn.results = #[r1, r2, r3, r4])
  (h1 : Res P w0 h0 L Γ r1 v1) (h2 : Res P w0 h0 L Γ r2 v2) (h3 : Res P w0 h0 L Γ r3 v3) (h4 : Res P w0 h0 L Γ r4 v4) (hΓ : ∀ h, star Γ h → star Γ' h) (hp : post (.tuple #[v1, v2, v3, v4]) Γ') : Jp w0 h0 e (bodyPost P fn (Post w0 h0 post)) n L Γ := by
 intro a w f s
 have := Jp.end4 (post := fun v Δ => v = .tuple #[v1, v2, v3, v4] ∧ Δ = Γ) he hr h1 h2 h3 h4 ⟨rfl, rfl⟩ a w f s
 rcases he with rfl | rfl <;> (obtain ⟨hd, v, hv, v2, Δ, e1, ⟨e2, e3⟩, s'⟩ := this; subst e2; subst e3; exact ⟨hd, v, hv, _, Γ', e1, hp, s'.mono hΓ⟩)
structure Kp (s : St) (g : Fld) (s' : St) (g' : Fld) : Prop where
 ok : StOk s → StOk s'
 led : LedOk s g → LedOk s' g'
theorem Kp.refl (s : St) (g : Fld) : Kp s g s g := ⟨id, id⟩
theorem Kp.trans {s s1 s2 : St} {g g1 g2 : Fld} (h : Kp s g s1 g1) (k : Kp s1 g1 s2 g2) : Kp s g s2 g2 := ⟨fun x => k.ok (h.ok x), fun x => k.led (h.led x)⟩
theorem StLike.ok {s s' : St} (h : StLike s s') (k : StOk s) : StOk s' := ⟨by rw [h.now]; exact k.now, by rw [h.on0, h.a0]; exact k.a0, by rw [h.on1, h.a1]; exact k.a1⟩
theorem EdOk.kp {s s' : St} {g g' : Fld} {p : Pl} {c : C2} (h : EdOk s g p c s' g') : Kp s g s' g' := ⟨h.like.ok, h.led⟩
theorem Kp.ofD {s : St} {g g' : Fld} (h : g'.D = g.D) : Kp s g s g' := ⟨id, fun k => by unfold LedOk at *; rw [h]; exact k⟩
def stpN (p : Pl) (d : Int) (n : Int) : Pl := ⟨p.x + (if d = 0 then n else if d = 1 then -n else 0), p.y + (if d = 4 then n else if d = 5 then -n else 0), p.z + (if d = 2 then n else if d = 3 then -n else 0)⟩
theorem stp_N (p : Pl) (d : Int) (n : Int) : stp (stpN p d n) d = stpN p d (n + 1) := by
 simp only [stp, stx, sty, stz, stpN, Pl.mk.injEq]
 refine ⟨?_, ?_, ?_⟩
 ·split
  ·omega
  ·split <;> omega
 ·by_cases h4 : d = 4
  ·subst h4; simp; omega
  ·by_cases h5 : d = 5
   ·subst h5; simp; omega
   ·simp [h4, h5]
 ·by_cases h4 : d = 2
  ·subst h4; simp; omega
  ·by_cases h5 : d = 3
   ·subst h5; simp; omega
   ·simp [h4, h5]
theorem stp_1 (p : Pl) (d : Int) : stp p d = stpN p d 1 := by
 have := stp_N p d 0
 have e : stpN p d 0 = p := by
  obtain ⟨x, y, z⟩ := p
  simp [stpN]
 rw [e] at this; exact this
theorem stpN_inj {p : Pl} {d : Int} (hd : 0 ≤ d ∧ d ≤ 5) {i j : Int} (h : stpN p d i = stpN p d j) : i = j := by
 simp only [stpN, Pl.mk.injEq] at h
 obtain ⟨h1, h2, h3⟩ := h
 obtain rfl | rfl | rfl | rfl | rfl | rfl : d = 0 ∨ d = 1 ∨ d = 2 ∨ d = 3 ∨ d = 4 ∨ d = 5 := by omega
 ·simp at h1; omega
 ·simp at h1; omega
 ·simp at h3; omega
 ·simp at h3; omega
 ·simp at h2; omega
 ·simp at h2; omega
theorem PlS_snoc' (v : Value) (l : List Pl) (x : Pl) : Sl' 49 3 v (l.length + 1) (l.flatMap Pl.cs ++ x.cs) = PlS v (l ++ [x]) := by unfold PlS; simp
theorem CsS_snoc (v : Value) (f : Pl → C2) (l : List Pl) (x : Pl) : Sl' 51 2 v ((l.map f).length + 1) ((l.map f).flatMap C2.cs ++ (f x).cs) = CsS v ((l ++ [x]).map f) := by unfold CsS; simp
structure PuS where
 q : Pl
 ok : Bool
 cv : Value
 pv : Value
 l : List Pl
 bq : Nat
structure PuI (p : Pl) (d : Int) (w : PuS) : Prop where
 len : w.l.length ≤ 10
 q : w.ok = true → MayQ w.q ∧ w.q = stpN p d ((w.l.length : Int) + 1)
 l : ∀ i, i < w.l.length → w.l[i]? = some (stpN p d ((i : Int) + 1)) ∧ MayQ (stpN p d ((i : Int) + 1))
theorem PuI.snoc {p q : Pl} {d : Int} {cv pv cv' pv' : Value} {l : List Pl} {b b' : Nat} {ok : Bool} {q' : Pl} (h : PuI p d ⟨q, true, cv, pv, l, b⟩) (hl : l.length ≤ 9) (hq : ok = true → MayQ q' ∧ q' = stp q d) : PuI p d ⟨q', ok, cv', pv', l ++ [q], b'⟩ := by
 have hl' := h.len
 obtain ⟨hm, he⟩ := h.q rfl
 have he : q = stpN p d ((l.length : Int) + 1) := he
 refine ⟨by show (l ++ [q]).length ≤ 10; simp; omega, fun e => ?_, fun i hi => ?_⟩
 ·obtain ⟨h1, h2⟩ := hq e
  refine ⟨h1, h2.trans ?_⟩
  rw [he, stp_N]; simp
 ·have hi' : i < (l ++ [q]).length := hi
  simp only [List.length_append, List.length_singleton] at hi'
  by_cases e : i < l.length
  ·rw [show (PuS.l ⟨q', ok, cv', pv', l ++ [q], b'⟩) = l ++ [q] from rfl, List.getElem?_append_left e]; exact h.l i e
  ·obtain rfl : i = l.length := by omega
   refine ⟨?_, by rw [← he]; exact hm⟩
   show (l ++ [q])[l.length]? = _
   rw [List.getElem?_append_right (Nat.le_refl _)]; simp [he]
structure PuJ (g : Fld) (l : List Pl) (x : C2) (k : Nat) (g' : Fld) : Prop where
 cell : ∀ j, j ≤ k → ∀ q, l[j]? = some q → g'.cell q = g.cell q
 D : ∀ q, l[k]? = some q → g'.D = g.D + mv (g.cell q) - mv x
theorem PuJ.step {s : St} {g g1 g2 : Fld} {l : List Pl} {x : C2} {k : Nat} {p : Pl} {d : Int} {q q' : Pl} (hd : 0 ≤ d ∧ d ≤ 5) (hl : ∀ i, i < l.length → l[i]? = some (stpN p d ((i : Int) + 1)) ∧ MayQ (stpN p d ((i : Int) + 1))) (h : PuJ g l x (k + 1) g1) (hq : l[k + 1]? = some q) (hq' : l[k]? = some q')
  (hC : ChgOk s g1 q (g.cell q') g2) : PuJ g l x k g2 := by
 have hk : k + 1 < l.length := (List.getElem?_eq_some_iff.1 hq).1
 refine ⟨fun j hj y hy => ?_, fun y hy => ?_⟩
 ·have hj2 := (hl j (by omega)).1
  have hk2 := (hl (k + 1) hk).1
  rw [hq] at hk2; rw [hy] at hj2
  have e1 : y = _ := Option.some.inj hj2
  have e2 : q = _ := Option.some.inj hk2
  rw [hC.cell]
  show (if y = q then g.cell q' else g1.cell y) = g.cell y
  rw [if_neg, h.cell j (by omega) y hy]
  intro e
  rw [e1, e2] at e
  have := stpN_inj hd e
  omega
 ·rw [hq'] at hy; cases hy
  rw [hC.D, h.D q hq, h.cell (k + 1) (Nat.le_refl _) q hq]; omega
theorem PuJ.done {s : St} {g g1 g2 : Fld} {l : List Pl} {x : C2} {q : Pl} (h : PuJ g l x 0 g1) (hq : l[0]? = some q) (hx : ¬ KMov x.a) (hC : ChgOk s g1 q ⟨0, 0⟩ g2) : g2.D = g.D := by
 rw [hC.D, h.D q hq, h.cell 0 (Nat.le_refl _) q hq]
 have e1 : mv x = 0 := by unfold mv; rw [if_neg hx]
 have e2 : mv ⟨0, 0⟩ = 0 := by decide
 omega
theorem stpN_rng {g : Fld} {l : List Pl} (hrg : ∀ p, MayQ p → C2.rng (g.cell p) ∧ C2.rng (g.light p)) {p : Pl} {d : Int} (hl : ∀ i, i < l.length → l[i]? = some (stpN p d ((i : Int) + 1)) ∧ MayQ (stpN p d ((i : Int) + 1))) : ∀ x ∈ l.map g.cell, C2.rng x := fun x hx => by
 obtain ⟨q, hq, rfl⟩ := List.mem_map.1 hx
 obtain ⟨i, hi, e⟩ := List.getElem_of_mem hq
 have h := hl i hi
 rw [List.getElem?_eq_getElem hi, e] at h
 have e2 := Option.some.inj h.1
 rw [e2]; exact (hrg _ h.2).1
theorem c34_t (m r : Nat) (s : St) (g : Fld) (p : Pl) (hp : MayQ p) : Tri Tryz.prog 34 [.iface 24 (mp m), plv p] [Mb m r s, FieldR r g] (fun v Γ' => v = .tuple #[(g.cell p).v, (g.light p).v, .int .i64 (g.due p), .int .i64 0] ∧ Γ' = [Mb m r s, FieldR r g]) := by
 refine Pcalls (n := 28) Tryz.func34 rfl rfl rfl fun W0 H0 => ?_
 refine SP.r2 ?_
 refine XL.boxA rfl rfl (fun b1 => ?_)
 refine XL.alloc (by rfl) (fun b2 => ?_)
 refine XL.alloc (by rfl) (fun b3 => ?_)
 refine XL.a ?_
 refine XL.a ?_
 refine XL.n5 ?_
 refine SP.block ?_
 refine SP.r2 ?_
 refine XL.m ?_
 refine XL.innil_eql rfl Tryz.underlying82 rfl ?_
 refine XL.a ?_
 refine XL.n2 ?_
 refine SP.f ?_
 refine SP.r2 ?_
 refine XL.lA ?_
 refine XL.cp rfl (c48 p.x p.y p.z) rfl ?_
 rw [decide_eq_true hp]
 refine XL.not_t rfl rfl ?_
 refine XL.a ?_
 refine XL.n2 ?_
 refine SP.f ?_
 refine SP.skip ?_
 refine Jp.block_normal ?_
 refine Jp.then_normal ?_
 refine SP.seq ?_
 refine SP.tail 9 Tryz.fol (by kernel_rfl) ?_
 refine XL.m ?_
 refine XL.lA ?_
 refine XL.ir (r := (g.cell p).v) rfl rfl (F_Cell m r s g p hp) (by repeat' constructor) rfl ?_
 refine XL.m ?_
 refine XL.lA ?_
 refine XL.ir (r := (g.light p).v) rfl rfl (F_Light m r s g p hp) (by repeat' constructor) rfl ?_
 refine XL.m ?_
 refine XL.lA ?_
 refine XL.ir (r := .int .i64 (g.due p)) rfl rfl (F_Due m r s g p hp) (by repeat' constructor) rfl ?_
 refine XL.nilq_tail ?_
 refine XL.sA ?_
 refine XL.sA ?_
 refine XL.a ?_
 refine XL.a ?_
 refine XL.n2 ?_
 refine SP.ret ?_
 exact Jp.end4G (.inr rfl) rfl (Res.cellA (by rfl)) (Res.cellA (by rfl)) rfl rfl (Pk.drop (Γ1 := [Mb m r s, FieldR r g]) (by repeat' constructor)) ⟨rfl, rfl⟩
theorem c34_f (m r : Nat) (s : St) (g : Fld) (p : Pl) (hp : ¬ MayQ p) : Tri Tryz.prog 34 [.iface 24 (mp m), plv p] [Mb m r s, FieldR r g] (fun v Γ' => v = .tuple #[.agg #[.int .u8 0, .int .u8 0], .agg #[.int .u8 0, .int .u8 0], .int .i64 0, .int .i64 10] ∧ Γ' = [Mb m r s, FieldR r g]) := by
 refine Pcalls (n := 28) Tryz.func34 rfl rfl rfl fun W0 H0 => ?_
 refine SP.r2 ?_
 refine XL.boxA rfl rfl (fun b1 => ?_)
 refine XL.alloc (by rfl) (fun b2 => ?_)
 refine XL.alloc (by rfl) (fun b3 => ?_)
 refine XL.a ?_
 refine XL.a ?_
 refine XL.n5 ?_
 refine SP.block ?_
 refine SP.r2 ?_
 refine XL.m ?_
 refine XL.innil_eql rfl Tryz.underlying82 rfl ?_
 refine XL.a ?_
 refine XL.n2 ?_
 refine SP.f ?_
 refine SP.r2 ?_
 refine XL.lA ?_
 refine XL.cp rfl (c48 p.x p.y p.z) rfl ?_
 rw [decide_eq_false hp]
 refine XL.not_f rfl rfl ?_
 refine XL.a ?_
 refine XL.n2 ?_
 refine SP.t ?_
 refine SP.r2 ?_
 refine XL.build (by rfl) (by rfl) ?_
 refine XL.build (by rfl) (by rfl) ?_
 refine XL.sA ?_
 refine XL.sA ?_
 refine XL.a ?_
 refine XL.a ?_
 refine XL.n2 ?_
 refine SP.ret ?_
 refine Jp.block_ret ?_
 refine Jp.then_ret ?_
 exact Jp.end4G (.inr rfl) rfl (Res.cellA (by rfl)) (Res.cellA (by rfl)) rfl rfl (Pk.drop (Γ1 := [Mb m r s, FieldR r g]) (by repeat' constructor)) ⟨rfl, rfl⟩
theorem c28 (m r : Nat) (s : St) (g : Fld) (hs : StOk s) (p : Pl) (c : C2) (hc : C2.rng c) : Tri Tryz.prog 28 [.iface 24 (mp m), mp m, plv p, c2v c] [Mb m r s, FieldR r g] (fun v Γ' => ∃ (s' : St) (g' : Fld) (e : Int), v = .int .i64 e ∧ Kp s g s' g' ∧ (MayQ p → MayC c.a c.b → c.a ≠ 1 → (g.cell p).a ≠ 1 → e = 0 ∧ EdOk s g p c s' g') ∧ Γ' = [Mb m r s', FieldR r g']) := by
 refine Pcalls (n := 36) Tryz.func28 rfl rfl rfl fun W0 H0 => ?_
 refine SP.r2 ?_
 refine XL.boxA rfl rfl (fun b1 => ?_)
 refine XL.boxA rfl rfl (fun b2 => ?_)
 refine XL.a ?_
 refine XL.n5 ?_
 refine SP.block ?_
 refine SP.r2 ?_
 refine XL.m ?_
 refine XL.innil_eql rfl Tryz.underlying82 rfl ?_
 refine XL.m ?_
 refine XL.g ?_
 refine XL.m ?_
 refine XL.g ?_
 refine XL.pnnil_eql rfl rfl ?_
 refine XL.pick_f rfl rfl rfl ?_
 refine XL.a ?_
 refine XL.n2 ?_
 refine SP.f ?_
 refine SP.r2 ?_
 refine XL.lA ?_
 refine XL.cs rfl (c48 p.x p.y p.z) rfl (fun hp => ?_) (fun hp => ?_)
 ·refine XL.not_t rfl rfl ?_
  refine XL.a ?_
  refine XL.n2 ?_
  refine SP.f ?_
  refine SP.r2 ?_
  refine XL.lA ?_
  refine XL.cs rfl (c49 c.a c.b hc.1 hc.2.1 hc.2.2.1 hc.2.2.2) rfl (fun hm => ?_) (fun hm => ?_)
  ·refine XL.not_t rfl rfl ?_
   refine XL.a ?_
   refine XL.n2 ?_
   refine SP.f ?_
   refine SP.r2 ?_
   refine XL.m ?_
   refine XL.lA ?_
   refine XL.ir (r := (g.cell p).v) rfl rfl (F_Cell m r s g p hp) (by repeat' constructor) rfl ?_
   refine XL.field (by rfl) (by rfl) ?_
   refine XL.eql_s rfl rfl rfl (fun hb => ?_) (fun hb => ?_)
   ·refine XL.a ?_
    refine XL.n2 ?_
    refine SP.t ?_
    refine SP.r2 ?_
    refine XL.a ?_
    refine XL.n2 ?_
    refine SP.ret ?_
    refine Jp.block_ret ?_
    refine Jp.then_ret ?_
    exact Jp.go (Pk.drop (by repeat' constructor)) (Jp.end1 (Γ := [Mb m r s, FieldR r g]) (.inr rfl) rfl rfl ⟨s, g, 12, rfl, Kp.refl s g, fun _ _ _ h => absurd hb h, rfl⟩)
   ·refine XL.a ?_
    refine XL.n2 ?_
    refine SP.f ?_
    refine SP.skip ?_
    refine Jp.block_normal ?_
    refine Jp.n4 ?_
    refine XL.m ?_
    refine XL.m ?_
    refine XL.build (by rfl) (by rfl) ?_
    refine XL.lA ?_
    refine XL.lA ?_
    refine XL.cw rfl (c50 m r s g p hp c hc hs.now) (by repeat' constructor) rfl ?_
    rintro _ _ ⟨rfl, s1, g1, hE, rfl⟩
    refine XL.app2 ?_
    refine XL.n4 ?_
    refine XL.a ?_
    refine XL.n2 ?_
    refine SP.ret ?_
    exact Jp.go (Pk.drop (by repeat' constructor)) (Jp.end1 (Γ := [Mb m r s1, FieldR r g1]) (.inr rfl) rfl rfl ⟨s1, g1, 0, rfl, hE.kp, fun _ _ _ _ => ⟨rfl, hE⟩, rfl⟩)
  ·refine XL.not_f rfl rfl ?_
   refine XL.a ?_
   refine XL.n2 ?_
   refine SP.t ?_
   refine SP.r2 ?_
   refine XL.a ?_
   refine XL.n2 ?_
   refine SP.ret ?_
   refine Jp.block_ret ?_
   refine Jp.then_ret ?_
   exact Jp.go (Pk.drop (by repeat' constructor)) (Jp.end1 (Γ := [Mb m r s, FieldR r g]) (.inr rfl) rfl rfl ⟨s, g, 11, rfl, Kp.refl s g, fun _ h h2 => absurd ⟨h, h2⟩ hm, rfl⟩)
 ·refine XL.not_f rfl rfl ?_
  refine XL.a ?_
  refine XL.n2 ?_
  refine SP.t ?_
  refine SP.r2 ?_
  refine XL.a ?_
  refine XL.n2 ?_
  refine SP.ret ?_
  refine Jp.block_ret ?_
  refine Jp.then_ret ?_
  exact Jp.go (Pk.drop (by repeat' constructor)) (Jp.end1 (Γ := [Mb m r s, FieldR r g]) (.inr rfl) rfl rfl ⟨s, g, 10, rfl, Kp.refl s g, fun h => absurd h hp, rfl⟩)
theorem kp_tick {s s' : St} {g g' : Fld} (hn : s.now < 1099511627776) (hl : StLike { s with now := s.now + 1 } s') (hd : LedOk s g → LedOk s' g') : Kp s g s' g' := ⟨fun h => hl.ok ⟨by show 0 ≤ s.now + 1 ∧ s.now + 1 ≤ 1099511627776; have := h.now; omega, h.a0, h.a1⟩, hd⟩
theorem c33 (m r : Nat) (s : St) (g : Fld) (hs : StOk s) (n : Int) : Tri Tryz.prog 33 [.iface 24 (mp m), mp m, .int .i64 n] [Mb m r s, FieldR r g] (fun v Γ' => ∃ (s' : St) (g' : Fld) (e : Int), v = .int .i64 e ∧ Kp s g s' g' ∧ Γ' = [Mb m r s', FieldR r g']) := by
 refine Pcalls (n := 37) Tryz.func33 rfl rfl rfl fun W0 H0 => ?_
 have hs0 := hs.now
 refine SP.r2 ?_
 refine XL.a ?_
 refine XL.n5 ?_
 refine SP.block ?_
 refine SP.r2 ?_
 refine XL.m ?_
 refine XL.innil_eql rfl Tryz.underlying82 rfl ?_
 refine XL.m ?_
 refine XL.g ?_
 refine XL.m ?_
 refine XL.g ?_
 refine XL.pnnil_eql rfl rfl ?_
 refine XL.pick_f rfl rfl rfl ?_
 refine XL.a ?_
 refine XL.n2 ?_
 refine SP.f ?_
 refine SP.r2 ?_
 refine XL.m ?_
 refine XL.lss_s rfl rfl rfl (fun h1 => ?_) (fun h1 => ?_)
 ·refine XL.m ?_
  refine XL.k ?_
  refine XL.k ?_
  refine XL.pick_t rfl rfl rfl ?_
  refine XL.a ?_
  refine XL.n2 ?_
  refine SP.t ?_
  refine SP.r2 ?_
  refine XL.a ?_
  refine XL.n2 ?_
  refine SP.ret ?_
  refine Jp.block_ret ?_
  refine Jp.then_ret ?_
  exact Jp.go (Pk.drop (Γ1 := [Mb m r s, FieldR r g]) (by repeat' constructor)) (Jp.end1 (.inr rfl) rfl rfl ⟨s, g, _, rfl, Kp.refl s g, rfl⟩)
 ·refine XL.m ?_
  refine XL.g ?_
  refine XL.m ?_
  refine XL.g ?_
  refine XL.gtr_s rfl rfl rfl (fun h2 => ?_) (fun h2 => ?_)
  ·refine XL.pick_f rfl rfl rfl ?_
   refine XL.a ?_
   refine XL.n2 ?_
   refine SP.t ?_
   refine SP.r2 ?_
   refine XL.a ?_
   refine XL.n2 ?_
   refine SP.ret ?_
   refine Jp.block_ret ?_
   refine Jp.then_ret ?_
   exact Jp.go (Pk.drop (Γ1 := [Mb m r s, FieldR r g]) (by repeat' constructor)) (Jp.end1 (.inr rfl) rfl rfl ⟨s, g, _, rfl, Kp.refl s g, rfl⟩)
  ·refine XL.pick_f rfl rfl rfl ?_
   refine XL.a ?_
   refine XL.n2 ?_
   refine SP.f ?_
   refine SP.r2 ?_
   refine XL.m ?_
   refine XL.nilCheck rfl rfl ?_
   refine XL.f ?_
   refine XL.l ?_
   refine XL.m ?_
   refine XL.sub_i64 rfl rfl (by omega) (by omega) rfl ?_
   refine XL.gtr_s rfl rfl rfl (fun hq => ?_) (fun hq => ?_)
   ·refine XL.a ?_
    refine XL.n2 ?_
    refine SP.t ?_
    refine SP.r2 ?_
    refine XL.a ?_
    refine XL.n2 ?_
    refine SP.ret ?_
    refine Jp.block_ret ?_
    refine Jp.then_ret ?_
    exact Jp.go (Pk.drop (Γ1 := [Mb m r s, FieldR r g]) (by repeat' constructor)) (Jp.end1 (.inr rfl) rfl rfl ⟨s, g, _, rfl, Kp.refl s g, rfl⟩)
   ·refine XL.a ?_
    refine XL.n2 ?_
    refine SP.f ?_
    refine SP.skip ?_
    refine Jp.block_normal ?_
    refine Jp.then_normal ?_
    refine SP.seq ?_
    refine SP.r2 ?_
    refine XL.m ?_
    refine XL.m ?_
    refine XL.n2 ?_
    refine SP.block ?_
    refine SP.loop (X := (Nat × St) × Fld) (fun w => [(30, .int .i64 (w.1.1 : Int)), (29, .int .i64 n), (0, .iface 24 (mp m)), (1, mp m)]) (fun w => [Mb m r w.1.2, FieldR r w.2]) (fun w => (w.1.1 : Int) ≤ n ∧ w.1.2.now = s.now + w.1.1 ∧ Kp s g w.1.2 w.2) (fun w => n.toNat - w.1.1) ((0, s), g) ⟨by show ((0 : Nat) : Int) ≤ n; omega, by show s.now = s.now + ((0 : Nat) : Int); omega, Kp.refl s g⟩ (by repeat' constructor) (Pk.drop (by repeat' constructor)) ?_
    rintro ⟨⟨i, s1⟩, g1⟩ ⟨hi, hnow, hk⟩
    dsimp only at *
    refine SP.r2 ?_
    refine XL.lss_s rfl rfl rfl (fun hc => ?_) (fun hc => ?_)
    ·refine XL.n5 ?_
     refine SP.t ?_
     refine SP.skip ?_
     refine Jp.then_normal ?_
     refine SP.seq ?_
     refine SP.block ?_
     refine SP.region ?_
     refine XL.m ?_
     refine XL.m ?_
     refine XL.build (by rfl) (by rfl) ?_
     have hnow2 : s1.now < 1099511627776 := by omega
     refine XL.cw rfl (c58 m r s1 g1 (hk.ok hs) hnow2) (by repeat' constructor) rfl ?_
     rintro _ _ ⟨rfl, s2, g2, hl, hled, rfl⟩
     refine XL.app2 ?_
     refine XL.nil ?_
     refine Jp.block_normal ?_
     refine Jp.then_normal ?_
     refine SP.region ?_
     refine XL.add_i64 rfl rfl (by omega) (by omega) rfl ?_
     refine XL.m ?_
     refine XL.nil ?_
     refine Jp.rd ((i + 1, s2), g2) ⟨by show ((i + 1 : Nat) : Int) ≤ n; omega, by show s2.now = s.now + ((i + 1 : Nat) : Int); have h1 := hl.now; have h2 : s2.now = s1.now + 1 := h1; omega, hk.trans (kp_tick hnow2 hl hled)⟩ (by show n.toNat - (i + 1) < n.toNat - i; omega)
    ·refine XL.n5 ?_
     refine SP.f ?_
     refine SP.exit ?_
     refine Jp.then_exit ?_
     refine Jp.then_exit ?_
     refine Jp.block_here ?_
     refine Jp.n4 ?_
     refine XL.a ?_
     refine XL.n2 ?_
     refine SP.ret ?_
     exact Jp.go (Pk.drop (Γ1 := [Mb m r s1, FieldR r g1]) (by repeat' constructor)) (Jp.end1 (.inr rfl) rfl rfl ⟨s1, g1, _, rfl, hk, rfl⟩)
theorem c30 (m r : Nat) (s : St) (g : Fld) (hs : StOk s) (p : Pl) (d : Int) : Tri Tryz.prog 30 [.iface 24 (mp m), mp m, plv p, .int .i64 d] [Mb m r s, FieldR r g] (fun v Γ' => ∃ (g' : Fld) (e : Int), v = .int .i64 e ∧ g'.D = g.D ∧ Γ' = [Mb m r s, FieldR r g']) := by
 refine Pcalls (n := 103) Tryz.func30 rfl rfl rfl fun W0 H0 => ?_
 have hs0 := hs.now
 refine SP.know (Rm.know (by repeat' constructor) FieldR.rng) ?_
 intro hrg
 refine SP.r2 ?_
 refine XL.boxA rfl rfl (fun b1 => ?_)
 refine XL.a ?_
 refine XL.n5 ?_
 refine SP.block ?_
 refine SP.r2 ?_
 refine XL.m ?_
 refine XL.innil_eql rfl Tryz.underlying82 rfl ?_
 refine XL.m ?_
 refine XL.g ?_
 refine XL.m ?_
 refine XL.g ?_
 refine XL.pnnil_eql rfl rfl ?_
 refine XL.pick_f rfl rfl rfl ?_
 refine XL.a ?_
 refine XL.n2 ?_
 refine SP.f ?_
 refine SP.r2 ?_
 refine XL.lA ?_
 refine XL.cs rfl (c48 p.x p.y p.z) rfl (fun hp => ?_) (fun hp => ?_)
 ·refine XL.not_t rfl rfl ?_
  refine XL.a ?_
  refine XL.n2 ?_
  refine SP.f ?_
  refine SP.r2 ?_
  refine XL.m ?_
  refine XL.lss_s rfl rfl rfl (fun h1 => ?_) (fun h1 => ?_)
  ·refine XL.m ?_
   refine XL.k ?_
   refine XL.k ?_
   refine XL.pick_t rfl rfl rfl ?_
   refine XL.a ?_
   refine XL.n2 ?_
   refine SP.t ?_
   refine SP.r2 ?_
   refine XL.a ?_
   refine XL.n2 ?_
   refine SP.ret ?_
   refine Jp.block_ret ?_
   refine Jp.then_ret ?_
   exact Jp.go (Pk.drop (Γ1 := [Mb m r s, FieldR r g]) (by repeat' constructor)) (Jp.end1 (.inr rfl) rfl rfl ⟨g, _, rfl, rfl, rfl⟩)
  ·refine XL.m ?_
   refine XL.g ?_
   refine XL.m ?_
   refine XL.g ?_
   refine XL.gtr_s rfl rfl rfl (fun h2 => ?_) (fun h2 => ?_)
   ·refine XL.pick_f rfl rfl rfl ?_
    refine XL.a ?_
    refine XL.n2 ?_
    refine SP.t ?_
    refine SP.r2 ?_
    refine XL.a ?_
    refine XL.n2 ?_
    refine SP.ret ?_
    refine Jp.block_ret ?_
    refine Jp.then_ret ?_
    exact Jp.go (Pk.drop (Γ1 := [Mb m r s, FieldR r g]) (by repeat' constructor)) (Jp.end1 (.inr rfl) rfl rfl ⟨g, _, rfl, rfl, rfl⟩)
   ·refine XL.pick_f rfl rfl rfl ?_
    refine XL.a ?_
    refine XL.n2 ?_
    refine SP.f ?_
    refine SP.r2 ?_
    refine XL.m ?_
    refine XL.lA ?_
    refine XL.ir (r := (g.cell p).v) rfl rfl (F_Cell m r s g p hp) (by repeat' constructor) rfl ?_
    refine XL.field (by rfl) (by rfl) ?_
    refine XL.neq_s rfl rfl rfl (fun h3 => ?_) (fun h3 => ?_)
    ·refine XL.a ?_
     refine XL.n2 ?_
     refine SP.t ?_
     refine SP.r2 ?_
     refine XL.a ?_
     refine XL.n2 ?_
     refine SP.ret ?_
     refine Jp.block_ret ?_
     refine Jp.then_ret ?_
     exact Jp.go (Pk.drop (Γ1 := [Mb m r s, FieldR r g]) (by repeat' constructor)) (Jp.end1 (.inr rfl) rfl rfl ⟨g, _, rfl, rfl, rfl⟩)
    ·refine XL.a ?_
     refine XL.n2 ?_
     refine SP.f ?_
     refine SP.skip ?_
     refine Jp.block_normal ?_
     refine Jp.n4 ?_
     refine XL.m ?_
     refine XL.m ?_
     refine XL.build (by rfl) (by rfl) ?_
     refine XL.alloc (by rfl) (fun b2 => ?_)
     refine XL.sA ?_
     refine XL.n4 ?_
     refine XL.a ?_
     refine XL.n4 ?_
     refine XL.a ?_
     refine XL.n2 ?_
     refine SP.cut (X := (Value × Value) × List Pl) (fun w => [(10, w.1.1), (11, w.1.2), (9, .pointer (some ⟨b2, 0, none⟩))]) (fun w => [CsS w.1.1 (w.2.map g.cell), PlS w.1.2 w.2, pt b2 (cel [.iface 24 (mp m), mp m] 114), Mb m r s, FieldR r g]) (fun w => w.2.length ≤ 10 ∧ ∀ i, i < w.2.length → w.2[i]? = some (stpN p d ((i : Int) + 1)) ∧ MayQ (stpN p d ((i : Int) + 1))) ?_ ?_
     ·refine SP.r2 ?_
      refine XL.lA ?_
      refine XL.m ?_
      have hd : 0 ≤ d ∧ d ≤ 5 := by omega
      by_cases hq : MayQ (stp p d)
      ·refine XL.cp rfl (c_Step_t p.x p.y p.z d hd.1 hd.2 hp hq) rfl ?_
       refine XL.m ?_
       refine XL.x ?_
       refine XL.x ?_
       refine XL.alloc (by rfl) (fun bq => ?_)
       refine XL.sA ?_
       refine XL.a ?_
       refine XL.n2 ?_
       refine SP.block ?_
       refine SP.gam (star_nilS (E := 51) (k := 2)) ?_
       refine SP.gam (star_nilS (E := 49) (k := 3)) ?_
       refine SP.loop (X := PuS) (fun w => [(13, .bool w.ok), (12, .pointer (some ⟨w.bq, 0, none⟩)), (10, w.cv), (11, w.pv), (9, .pointer (some ⟨b2, 0, none⟩)), (0, .iface 24 (mp m)), (3, .int .i64 d)]) (fun w => [pt w.bq (cel w.q.cs 49), CsS w.cv (w.l.map g.cell), PlS w.pv w.l, pt b2 (cel [.iface 24 (mp m), mp m] 114), Mb m r s, FieldR r g]) (fun w => PuI p d w) (fun w => (if w.ok then 1 else 0) + (10 - w.l.length) * 2) ⟨stp p d, true, .slice none 0 0, .slice none 0 0, [], bq⟩ ⟨Nat.zero_le _, fun _ => ⟨hq, stp_1 p d⟩, fun i hi => absurd hi (Nat.not_lt_zero _)⟩ (by repeat' constructor) (Pk.drop (by repeat' constructor)) ?_
       rintro ⟨q, ok, cv, pv, l, bq⟩ hI
       dsimp only at *
       have hIl : l.length ≤ 10 := hI.len
       have hml : (l.map g.cell).length = l.length := List.length_map g.cell
       refine SP.seq ?_
       refine SP.r2 ?_
       rcases ok with _ | _
       ·refine XL.m ?_
        refine XL.m ?_
        refine XL.k ?_
        refine XL.k ?_
        refine XL.k ?_
        refine XL.pick_f rfl rfl rfl ?_
        refine XL.n2 ?_
        refine SP.f ?_
        refine SP.exit ?_
        refine Jp.then_exit ?_
        refine Jp.then_exit ?_
        refine Jp.block_here ?_
        refine Jp.mt ((cv, pv), l) ⟨hI.len, hI.l⟩
       ·refine XL.m ?_
        obtain ⟨hmq, hqe⟩ := hI.q rfl
        refine XL.m ?_
        refine XL.g ?_
        refine XL.m ?_
        refine XL.g ?_
        refine XL.know (Rm.know (A := PlS pv l) (by repeat' constructor) (fun _ hq => Sl'.len hq)) ?_
        rintro ⟨a, cl, epv, _⟩
        refine XL.len (a := a) (m := l.length) (c := cl) (show some pv = _ by rw [epv]) rfl ?_
        refine XL.g ?_
        refine XL.leq_s rfl rfl rfl (fun hc => ?_) (fun hc => ?_)
        ·have hc9 : l.length ≤ 9 := by omega
         refine XL.pick_t rfl rfl rfl ?_
         refine XL.n2 ?_
         refine SP.t ?_
         refine SP.skip ?_
         refine Jp.then_normal ?_
         refine SP.seq ?_
         refine SP.block ?_
         refine SP.r2 ?_
         refine XL.m ?_
         refine XL.m ?_
         refine XL.lA ?_
         refine XL.ir (r := (g.cell q).v) rfl rfl (F_Cell m r s g q hmq) (by repeat' constructor) rfl ?_
         refine XL.buildSlice (by rfl) (by rfl) (by rfl) (by decide) rfl (fun b4 => ?_)
         refine XL.append (k := 2) (z := [.int .u8 0, .int .u8 0]) (bt := 2) (xs := (l.map g.cell).flatMap C2.cs) (ys := C2.cs (g.cell q)) (m := (l.map g.cell).length) (m2 := 1) rfl rfl ⟨_, Tryz.underlying119⟩ (by repeat' constructor) rfl rfl rfl (by omega) rfl rfl (fun cv2 => ?_)
         rw [CsS_snoc cv2 g.cell l q]
         refine XL.a ?_
         refine XL.n3 ?_
         refine XL.m ?_
         refine XL.lA ?_
         refine XL.buildSlice (by rfl) (by rfl) (by rfl) (by decide) rfl (fun b5 => ?_)
         refine XL.append (k := 3) (z := [.int .i64 0, .int .i64 0, .int .i64 0]) (bt := 24) (xs := l.flatMap Pl.cs) (ys := Pl.cs q) (m := l.length) (m2 := 1) rfl rfl ⟨_, Tryz.underlying61⟩ (by repeat' constructor) rfl rfl rfl (by omega) rfl rfl (fun pv2 => ?_)
         rw [PlS_snoc' pv2 l q]
         refine XL.a ?_
         refine XL.nil ?_
         refine Jp.block_normal ?_
         refine Jp.then_normal ?_
         refine SP.seq ?_
         refine SP.r2 ?_
         refine XL.lA ?_
         refine XL.n3 ?_
         refine XL.alloc (by rfl) (fun bq2 => ?_)
         refine XL.sA ?_
         refine XL.n3 ?_
         refine XL.lA ?_
         refine XL.m ?_
         by_cases hq2 : MayQ (stp q d)
         ·refine XL.cp rfl (c_Step_t q.x q.y q.z d hd.1 hd.2 hmq hq2) rfl ?_
          refine XL.m ?_
          refine XL.x ?_
          refine XL.x ?_
          refine XL.sA ?_
          refine XL.a ?_
          refine XL.nil ?_
          refine Jp.rd ⟨stp q d, true, cv2, pv2, l ++ [q], bq2⟩ (hI.snoc hc9 (fun _ => ⟨hq2, rfl⟩)) (by show _ + (10 - (l ++ [q]).length) * 2 < 1 + (10 - l.length) * 2; simp <;> omega)
         ·refine XL.cp rfl (c_Step_f q.x q.y q.z d hd.1 hd.2 hmq hq2) rfl ?_
          refine XL.m ?_
          refine XL.x ?_
          refine XL.x ?_
          refine XL.sA ?_
          refine XL.a ?_
          refine XL.nil ?_
          refine Jp.rd ⟨⟨0, 0, 0⟩, false, cv2, pv2, l ++ [q], bq2⟩ (hI.snoc hc9 (fun h => Bool.noConfusion h)) (by show _ + (10 - (l ++ [q]).length) * 2 < 1 + (10 - l.length) * 2; simp <;> omega)
        ·refine XL.pick_t rfl rfl rfl ?_
         refine XL.n2 ?_
         refine SP.f ?_
         refine SP.exit ?_
         refine Jp.then_exit ?_
         refine Jp.then_exit ?_
         refine Jp.block_here ?_
         refine Jp.mt ((cv, pv), l) ⟨hI.len, hI.l⟩
      ·refine XL.cp rfl (c_Step_f p.x p.y p.z d hd.1 hd.2 hp hq) rfl ?_
       refine XL.m ?_
       refine XL.x ?_
       refine XL.x ?_
       refine XL.alloc (by rfl) (fun bq => ?_)
       refine XL.sA ?_
       refine XL.a ?_
       refine XL.n2 ?_
       refine SP.block ?_
       refine SP.gam (star_nilS (E := 51) (k := 2)) ?_
       refine SP.gam (star_nilS (E := 49) (k := 3)) ?_
       refine SP.loop (X := PuS) (fun w => [(13, .bool w.ok), (12, .pointer (some ⟨w.bq, 0, none⟩)), (10, w.cv), (11, w.pv), (9, .pointer (some ⟨b2, 0, none⟩)), (0, .iface 24 (mp m)), (3, .int .i64 d)]) (fun w => [pt w.bq (cel w.q.cs 49), CsS w.cv (w.l.map g.cell), PlS w.pv w.l, pt b2 (cel [.iface 24 (mp m), mp m] 114), Mb m r s, FieldR r g]) (fun w => PuI p d w) (fun w => (if w.ok then 1 else 0) + (10 - w.l.length) * 2) ⟨⟨0, 0, 0⟩, false, .slice none 0 0, .slice none 0 0, [], bq⟩ ⟨Nat.zero_le _, fun h => Bool.noConfusion h, fun i hi => absurd hi (Nat.not_lt_zero _)⟩ (by repeat' constructor) (Pk.drop (by repeat' constructor)) ?_
       rintro ⟨q, ok, cv, pv, l, bq⟩ hI
       dsimp only at *
       have hIl : l.length ≤ 10 := hI.len
       have hml : (l.map g.cell).length = l.length := List.length_map g.cell
       refine SP.seq ?_
       refine SP.r2 ?_
       rcases ok with _ | _
       ·refine XL.m ?_
        refine XL.m ?_
        refine XL.k ?_
        refine XL.k ?_
        refine XL.k ?_
        refine XL.pick_f rfl rfl rfl ?_
        refine XL.n2 ?_
        refine SP.f ?_
        refine SP.exit ?_
        refine Jp.then_exit ?_
        refine Jp.then_exit ?_
        refine Jp.block_here ?_
        refine Jp.mt ((cv, pv), l) ⟨hI.len, hI.l⟩
       ·refine XL.m ?_
        obtain ⟨hmq, hqe⟩ := hI.q rfl
        refine XL.m ?_
        refine XL.g ?_
        refine XL.m ?_
        refine XL.g ?_
        refine XL.know (Rm.know (A := PlS pv l) (by repeat' constructor) (fun _ hq => Sl'.len hq)) ?_
        rintro ⟨a, cl, epv, _⟩
        refine XL.len (a := a) (m := l.length) (c := cl) (show some pv = _ by rw [epv]) rfl ?_
        refine XL.g ?_
        refine XL.leq_s rfl rfl rfl (fun hc => ?_) (fun hc => ?_)
        ·have hc9 : l.length ≤ 9 := by omega
         refine XL.pick_t rfl rfl rfl ?_
         refine XL.n2 ?_
         refine SP.t ?_
         refine SP.skip ?_
         refine Jp.then_normal ?_
         refine SP.seq ?_
         refine SP.block ?_
         refine SP.r2 ?_
         refine XL.m ?_
         refine XL.m ?_
         refine XL.lA ?_
         refine XL.ir (r := (g.cell q).v) rfl rfl (F_Cell m r s g q hmq) (by repeat' constructor) rfl ?_
         refine XL.buildSlice (by rfl) (by rfl) (by rfl) (by decide) rfl (fun b4 => ?_)
         refine XL.append (k := 2) (z := [.int .u8 0, .int .u8 0]) (bt := 2) (xs := (l.map g.cell).flatMap C2.cs) (ys := C2.cs (g.cell q)) (m := (l.map g.cell).length) (m2 := 1) rfl rfl ⟨_, Tryz.underlying119⟩ (by repeat' constructor) rfl rfl rfl (by omega) rfl rfl (fun cv2 => ?_)
         rw [CsS_snoc cv2 g.cell l q]
         refine XL.a ?_
         refine XL.n3 ?_
         refine XL.m ?_
         refine XL.lA ?_
         refine XL.buildSlice (by rfl) (by rfl) (by rfl) (by decide) rfl (fun b5 => ?_)
         refine XL.append (k := 3) (z := [.int .i64 0, .int .i64 0, .int .i64 0]) (bt := 24) (xs := l.flatMap Pl.cs) (ys := Pl.cs q) (m := l.length) (m2 := 1) rfl rfl ⟨_, Tryz.underlying61⟩ (by repeat' constructor) rfl rfl rfl (by omega) rfl rfl (fun pv2 => ?_)
         rw [PlS_snoc' pv2 l q]
         refine XL.a ?_
         refine XL.nil ?_
         refine Jp.block_normal ?_
         refine Jp.then_normal ?_
         refine SP.seq ?_
         refine SP.r2 ?_
         refine XL.lA ?_
         refine XL.n3 ?_
         refine XL.alloc (by rfl) (fun bq2 => ?_)
         refine XL.sA ?_
         refine XL.n3 ?_
         refine XL.lA ?_
         refine XL.m ?_
         by_cases hq2 : MayQ (stp q d)
         ·refine XL.cp rfl (c_Step_t q.x q.y q.z d hd.1 hd.2 hmq hq2) rfl ?_
          refine XL.m ?_
          refine XL.x ?_
          refine XL.x ?_
          refine XL.sA ?_
          refine XL.a ?_
          refine XL.nil ?_
          refine Jp.rd ⟨stp q d, true, cv2, pv2, l ++ [q], bq2⟩ (hI.snoc hc9 (fun _ => ⟨hq2, rfl⟩)) (by show _ + (10 - (l ++ [q]).length) * 2 < 1 + (10 - l.length) * 2; simp <;> omega)
         ·refine XL.cp rfl (c_Step_f q.x q.y q.z d hd.1 hd.2 hmq hq2) rfl ?_
          refine XL.m ?_
          refine XL.x ?_
          refine XL.x ?_
          refine XL.sA ?_
          refine XL.a ?_
          refine XL.nil ?_
          refine Jp.rd ⟨⟨0, 0, 0⟩, false, cv2, pv2, l ++ [q], bq2⟩ (hI.snoc hc9 (fun h => Bool.noConfusion h)) (by show _ + (10 - (l ++ [q]).length) * 2 < 1 + (10 - l.length) * 2; simp <;> omega)
        ·refine XL.pick_t rfl rfl rfl ?_
         refine XL.n2 ?_
         refine SP.f ?_
         refine SP.exit ?_
         refine Jp.then_exit ?_
         refine Jp.then_exit ?_
         refine Jp.block_here ?_
         refine Jp.mt ((cv, pv), l) ⟨hI.len, hI.l⟩
     ·rintro ⟨⟨cv, pv⟩, l⟩ ⟨hl10, hl⟩
      dsimp only at *
      have hd : 0 ≤ d ∧ d ≤ 5 := by omega
      refine SP.r2 ?_
      refine XL.m ?_
      refine XL.cw rfl (c54 cv (l.map g.cell) (stpN_rng hrg hl) (by rw [List.length_map]; omega)) (by repeat' constructor) rfl ?_
      rintro _ _ ⟨n, e, rfl, hrow, rfl⟩
      refine XL.app1 ?_
      refine XL.m ?_
      refine XL.x ?_
      refine XL.x ?_
      refine XL.a ?_
      refine XL.a ?_
      refine XL.n5 ?_
      refine SP.r2 ?_
      refine XL.m ?_
      by_cases he : e = 0
      ·subst he
       refine XL.neq_f rfl rfl rfl rfl ?_
       obtain ⟨x, hx, hxm⟩ := hrow rfl
       refine XL.know (Rm.know (A := PlS pv l) (by repeat' constructor) (fun _ hq => Sl'.ptr hq (by have h1 := (List.getElem?_eq_some_iff.1 hx).1; rw [List.length_map] at h1; omega))) ?_
       rintro ⟨bl, cl, rfl, _⟩
       refine XL.know (Rm.know (A := CsS cv (l.map g.cell)) (by repeat' constructor) (fun _ hq => Sl'.ptr hq (by have h1 := (List.getElem?_eq_some_iff.1 hx).1; omega))) ?_
       rintro ⟨bc, cc, rfl, _⟩
       have hnl := (List.getElem?_eq_some_iff.1 hx).1
       rw [List.length_map] at hnl
       obtain ⟨qx, hqx⟩ : ∃ q, l[n]? = some q := ⟨_, List.getElem?_eq_getElem hnl⟩
       have hxe : x = g.cell qx := by rw [List.getElem?_map, hqx] at hx; exact (Option.some.inj hx).symm
       refine XL.n2 ?_
       refine SP.f ?_
       refine SP.skip ?_
       refine Jp.then_normal ?_
       refine SP.seq ?_
       refine SP.r2 ?_
       refine XL.m ?_
       refine XL.a ?_
       refine XL.n2 ?_
       refine SP.block ?_
       refine SP.loop (X := Nat × Fld) (fun w => [(16, .int .i64 (w.1 : Int)), (11, .slice (some ⟨bl, 0, none⟩) l.length cl), (10, .slice (some ⟨bc, 0, none⟩) (l.map g.cell).length cc), (9, .pointer (some ⟨b2, 0, none⟩))]) (fun w => [CsS (.slice (some ⟨bc, 0, none⟩) (l.map g.cell).length cc) (l.map g.cell), PlS (.slice (some ⟨bl, 0, none⟩) l.length cl) l, pt b2 (cel [.iface 24 (mp m), mp m] 114), Mb m r s, FieldR r w.2]) (fun w => w.1 ≤ n ∧ PuJ g l x w.1 w.2) (fun w => w.1) (n, g) ⟨Nat.le_refl _, fun _ _ _ _ => rfl, fun q hq => by rw [hqx] at hq; cases hq; rw [hxe]; show g.D = g.D + mv (g.cell qx) - mv (g.cell qx); omega⟩ (by repeat' constructor) (Pk.drop (by repeat' constructor)) ?_
       rintro ⟨k, g1⟩ ⟨hk, hJ⟩
       dsimp only at *
       refine SP.seq ?_
       refine SP.r2 ?_
       refine XL.m ?_
       refine XL.gtr_s rfl rfl rfl (fun hk0 => ?_) (fun hk0 => ?_)
       ·obtain ⟨k, rfl⟩ : ∃ j, k = j + 1 := ⟨k - 1, by omega⟩
        obtain ⟨q1, hq1⟩ : ∃ q, l[k + 1]? = some q := ⟨_, List.getElem?_eq_getElem (show k + 1 < l.length by omega)⟩
        obtain ⟨q0, hq0⟩ : ∃ q, l[k]? = some q := ⟨_, List.getElem?_eq_getElem (show k < l.length by omega)⟩
        have hc0 : (l.map g.cell)[k]? = some (g.cell q0) := by rw [List.getElem?_map, hq0]; rfl
        have hmq1 : MayQ q1 := by have h := hl (k + 1) (by omega); rw [hq1] at h; rw [Option.some.inj h.1]; exact h.2
        have hmq0 : MayQ q0 := by have h := hl k (by omega); rw [hq0] at h; rw [Option.some.inj h.1]; exact h.2
        refine XL.n2 ?_
        refine SP.t ?_
        refine SP.skip ?_
        refine Jp.then_normal ?_
        refine SP.seq ?_
        refine SP.block ?_
        refine SP.tail 10 Tryz.fol (by kernel_rfl) ?_
        refine XL.lA ?_
        refine XL.m ?_
        refine XL.m ?_
        refine XL.indexSl (r := (k + 1) * 3) rfl rfl (by omega) (by omega) (by simp) rfl ?_
        refine XL.loadA (hs := SbL.flat Pl.len hq1 rfl) rfl rfl ?_
        refine XL.m ?_
        refine XL.m ?_
        refine XL.sub_i64 rfl rfl (by omega) (by omega) rfl ?_
        refine XL.indexSl (r := k * 2) rfl rfl (by omega) (by rw [List.length_map]; omega) (by simp) rfl ?_
        refine XL.loadA (hs := SbL.flat C2.len hc0 rfl) rfl rfl ?_
        refine XL.nilq_tail ?_
        refine XL.cw rfl (c55 m r s g1 q1 hmq1 (g.cell q0) (hrg q0 hmq0).1 hs.now) (by repeat' constructor) rfl ?_
        rintro _ _ ⟨rfl, g2, hC, rfl⟩
        refine XL.app2 ?_
        refine XL.nil ?_
        refine Jp.block_normal ?_
        refine Jp.then_normal ?_
        refine SP.region ?_
        refine XL.m ?_
        refine XL.sub_i64 rfl rfl (by omega) (by omega) rfl ?_
        rw [show ((k + 1 : Nat) : Int) - 1 = (k : Int) by omega]
        refine XL.a ?_
        refine XL.nil ?_
        refine Jp.rd (k, g2) ⟨by show k ≤ n; omega, hJ.step hd hl hq1 hq0 hC⟩ (by show k < k + 1; omega)
       ·obtain rfl : k = 0 := by omega
        obtain ⟨q0, hq0⟩ : ∃ q, l[0]? = some q := ⟨_, List.getElem?_eq_getElem (show 0 < l.length by omega)⟩
        have hmq0 : MayQ q0 := by have h := hl 0 (by omega); rw [hq0] at h; rw [Option.some.inj h.1]; exact h.2
        refine XL.n2 ?_
        refine SP.f ?_
        refine SP.exit ?_
        refine Jp.then_exit ?_
        refine Jp.then_exit ?_
        refine Jp.block_here ?_
        refine Jp.then_normal ?_
        refine SP.seq ?_
        refine SP.tail 5 Tryz.fol (by kernel_rfl) ?_
        refine XL.lA ?_
        refine XL.m ?_
        refine XL.indexSl (r := 0) rfl rfl (by omega) (by omega) (by simp) rfl ?_
        refine XL.loadA (hs := SbL.flat Pl.len hq0 rfl) rfl rfl ?_
        refine XL.build (by rfl) (by rfl) ?_
        refine XL.nilq_tail ?_
        refine XL.cw rfl (c55 m r s g1 q0 hmq0 ⟨0, 0⟩ ⟨by decide, by decide, by decide, by decide⟩ hs.now) (by repeat' constructor) rfl ?_
        rintro _ _ ⟨rfl, g2, hC, rfl⟩
        refine XL.app2 ?_
        refine XL.n4 ?_
        refine XL.a ?_
        refine XL.n2 ?_
        refine SP.ret ?_
        exact Jp.go (Pk.drop (Γ1 := [Mb m r s, FieldR r g2]) (by repeat' constructor)) (Jp.end1 (.inr rfl) rfl rfl ⟨g2, _, rfl, hJ.done hq0 hxm hC, rfl⟩)
      ·refine XL.neq_t rfl rfl (by omega) rfl ?_
       refine XL.n2 ?_
       refine SP.t ?_
       refine SP.r2 ?_
       refine XL.m ?_
       refine XL.a ?_
       refine XL.n2 ?_
       refine SP.ret ?_
       refine Jp.then_ret ?_
       exact Jp.go (Pk.drop (Γ1 := [Mb m r s, FieldR r g]) (by repeat' constructor)) (Jp.end1 (.inr rfl) rfl rfl ⟨g, _, rfl, rfl, rfl⟩)
 ·refine XL.not_f rfl rfl ?_
  refine XL.a ?_
  refine XL.n2 ?_
  refine SP.t ?_
  refine SP.r2 ?_
  refine XL.a ?_
  refine XL.n2 ?_
  refine SP.ret ?_
  refine Jp.block_ret ?_
  refine Jp.then_ret ?_
  exact Jp.go (Pk.drop (Γ1 := [Mb m r s, FieldR r g]) (by repeat' constructor)) (Jp.end1 (.inr rfl) rfl rfl ⟨g, _, rfl, rfl, rfl⟩)
end Go.Proofs

namespace Go.Proofs
open Go.Bk
def mnI (a b : Int) : Int := if b < a then b else a
def mxI (a b : Int) : Int := if b > a then b else a
structure BxOk (p q : Pl) : Prop where
 mp : MayQ p
 mq : MayQ q
 x : mxI p.x q.x - mnI p.x q.x + 1 ≤ 16
 y : mxI p.y q.y - mnI p.y q.y + 1 ≤ 16
 z : mxI p.z q.z - mnI p.z q.z + 1 ≤ 16
 n : (mxI p.x q.x - mnI p.x q.x + 1) * (mxI p.y q.y - mnI p.y q.y + 1) * (mxI p.z q.z - mnI p.z q.z + 1) ≤ 512
def bxLo (p q : Pl) : Pl := ⟨mnI p.x q.x, mnI p.y q.y, mnI p.z q.z⟩
def bxHi (p q : Pl) : Pl := ⟨mxI p.x q.x, mxI p.y q.y, mxI p.z q.z⟩
def bxN (p q : Pl) : Int := (mxI p.x q.x - mnI p.x q.x + 1) * (mxI p.y q.y - mnI p.y q.y + 1) * (mxI p.z q.z - mnI p.z q.z + 1)
theorem mm_bd (a b : Int) : 1 ≤ mxI a b - mnI a b + 1 ∧ (mnI a b = a ∨ mnI a b = b) ∧ (mxI a b = a ∨ mxI a b = b) := by unfold mxI mnI; refine ⟨?_, ?_, ?_⟩ <;> (repeat' split) <;> omega
theorem mul_bd {a b A B : Int} (ha : 0 ≤ a ∧ a ≤ A) (hb : 0 ≤ b ∧ b ≤ B) : 0 ≤ a * b ∧ a * b ≤ A * B := ⟨Int.mul_nonneg ha.1 hb.1, Int.mul_le_mul ha.2 hb.2 hb.1 (Int.le_trans ha.1 ha.2)⟩
theorem c51_p (p q : Pl) (hp : ¬ MayQ p) : Pur Tryz.prog 51 [plv p, plv q] (.tuple #[.agg #[.int .i64 0, .int .i64 0, .int .i64 0], .agg #[.int .i64 0, .int .i64 0, .int .i64 0], .int .i64 0, .int .i64 10]) := by
 refine Pcalls (n := 93) Tryz.func51 rfl rfl rfl fun W0 H0 => ?_
 refine SP.r2 ?_
 refine XL.boxA rfl rfl (fun b1 => ?_)
 refine XL.boxA rfl rfl (fun b2 => ?_)
 refine XL.alloc (by rfl) (fun b3 => ?_)
 refine XL.alloc (by rfl) (fun b4 => ?_)
 refine XL.a ?_
 refine XL.a ?_
 refine XL.n5 ?_
 refine SP.r2 ?_
 refine XL.lA ?_
 refine XL.cp rfl (c48 p.x p.y p.z) rfl ?_
 rw [decide_eq_false hp]
 refine XL.not_f rfl rfl ?_
 refine XL.m ?_
 refine XL.k ?_
 refine XL.k ?_
 refine XL.k ?_
 refine XL.pick_t rfl rfl rfl ?_
 refine XL.n2 ?_
 refine SP.t ?_
 refine SP.r2 ?_
 refine XL.build (by rfl) (by rfl) ?_
 refine XL.build (by rfl) (by rfl) ?_
 refine XL.sA ?_
 refine XL.sA ?_
 refine XL.a ?_
 refine XL.a ?_
 refine XL.n2 ?_
 refine SP.ret ?_
 refine Jp.then_ret ?_
 refine Jp.pur4 (.inr rfl) rfl (Res.cellA (by rfl)) (Res.cellA (by rfl)) rfl rfl rfl
theorem c51_q (p q : Pl) (hp : MayQ p) (hq : ¬ MayQ q) : Pur Tryz.prog 51 [plv p, plv q] (.tuple #[.agg #[.int .i64 0, .int .i64 0, .int .i64 0], .agg #[.int .i64 0, .int .i64 0, .int .i64 0], .int .i64 0, .int .i64 10]) := by
 refine Pcalls (n := 93) Tryz.func51 rfl rfl rfl fun W0 H0 => ?_
 refine SP.r2 ?_
 refine XL.boxA rfl rfl (fun b1 => ?_)
 refine XL.boxA rfl rfl (fun b2 => ?_)
 refine XL.alloc (by rfl) (fun b3 => ?_)
 refine XL.alloc (by rfl) (fun b4 => ?_)
 refine XL.a ?_
 refine XL.a ?_
 refine XL.n5 ?_
 refine SP.r2 ?_
 refine XL.lA ?_
 refine XL.cp rfl (c48 p.x p.y p.z) rfl ?_
 rw [decide_eq_true hp]
 refine XL.not_t rfl rfl ?_
 refine XL.m ?_
 refine XL.g ?_
 refine XL.lA ?_
 refine XL.g ?_
 refine XL.cp rfl (c48 q.x q.y q.z) rfl ?_
 rw [decide_eq_false hq]
 refine XL.g ?_
 refine XL.not_f rfl rfl ?_
 refine XL.pick_f rfl rfl rfl ?_
 refine XL.n2 ?_
 refine SP.t ?_
 refine SP.r2 ?_
 refine XL.build (by rfl) (by rfl) ?_
 refine XL.build (by rfl) (by rfl) ?_
 refine XL.sA ?_
 refine XL.sA ?_
 refine XL.a ?_
 refine XL.a ?_
 refine XL.n2 ?_
 refine SP.ret ?_
 refine Jp.then_ret ?_
 refine Jp.pur4 (.inr rfl) rfl (Res.cellA (by rfl)) (Res.cellA (by rfl)) rfl rfl rfl
theorem c51_t (p q : Pl) (hp0 : MayQ p) (hq0 : MayQ q) (hb : BxOk p q) : Pur Tryz.prog 51 [plv p, plv q] (.tuple #[plv (bxLo p q), plv (bxHi p q), .int .i64 (bxN p q), .int .i64 0]) := by
 refine Pcalls (n := 93) Tryz.func51 rfl rfl rfl fun W0 H0 => ?_
 have hp := hp0
 have hq := hq0
 have hx := mm_bd p.x q.x
 have hy := mm_bd p.y q.y
 have hz := mm_bd p.z q.z
 unfold MayQ MayP at hp hq
 have hbx := hb.x
 have hby := hb.y
 have hbz := hb.z
 have hbn := hb.n
 refine SP.r2 ?_
 refine XL.boxA rfl rfl (fun b1 => ?_)
 refine XL.boxA rfl rfl (fun b2 => ?_)
 refine XL.alloc (by rfl) (fun b3 => ?_)
 refine XL.alloc (by rfl) (fun b4 => ?_)
 refine XL.a ?_
 refine XL.a ?_
 refine XL.n5 ?_
 refine SP.r2 ?_
 refine XL.lA ?_
 refine XL.cp rfl (c48 p.x p.y p.z) rfl ?_
 rw [decide_eq_true hp0]
 refine XL.not_t rfl rfl ?_
 refine XL.m ?_
 refine XL.g ?_
 refine XL.lA ?_
 refine XL.g ?_
 refine XL.cp rfl (c48 q.x q.y q.z) rfl ?_
 rw [decide_eq_true hq0]
 refine XL.g ?_
 refine XL.not_t rfl rfl ?_
 refine XL.pick_f rfl rfl rfl ?_
 refine XL.n2 ?_
 refine SP.f ?_
 refine SP.skip ?_
 refine Jp.n4 ?_
 refine XL.f ?_
 refine XL.l ?_
 refine XL.f ?_
 refine XL.l ?_
 refine XL.min2 (r := mnI p.x q.x) rfl rfl rfl rfl ?_
 refine XL.f ?_
 refine XL.l ?_
 refine XL.f ?_
 refine XL.l ?_
 refine XL.min2 (r := mnI p.y q.y) rfl rfl rfl rfl ?_
 refine XL.f ?_
 refine XL.l ?_
 refine XL.f ?_
 refine XL.l ?_
 refine XL.min2 (r := mnI p.z q.z) rfl rfl rfl rfl ?_
 refine XL.build (by rfl) (by rfl) ?_
 refine XL.sA ?_
 refine XL.n4 ?_
 refine XL.f ?_
 refine XL.l ?_
 refine XL.f ?_
 refine XL.l ?_
 refine XL.max2 (r := mxI p.x q.x) rfl rfl rfl rfl ?_
 refine XL.f ?_
 refine XL.l ?_
 refine XL.f ?_
 refine XL.l ?_
 refine XL.max2 (r := mxI p.y q.y) rfl rfl rfl rfl ?_
 refine XL.f ?_
 refine XL.l ?_
 refine XL.f ?_
 refine XL.l ?_
 refine XL.max2 (r := mxI p.z q.z) rfl rfl rfl rfl ?_
 refine XL.build (by rfl) (by rfl) ?_
 refine XL.sA ?_
 refine XL.n2 ?_
 refine SP.cut (X := Unit) (fun _u => [(8, .int .i64 (mxI p.x q.x - mnI p.x q.x + 1)), (9, .int .i64 (mxI p.y q.y - mnI p.y q.y + 1)), (10, .int .i64 (mxI p.z q.z - mnI p.z q.z + 1)), (4, .pointer (some ⟨b3, 0, none⟩)), (5, .pointer (some ⟨b4, 0, none⟩)), (6, .int .i64 0), (7, .int .i64 0)]) (fun _u => [pt b3 (cel (bxLo p q).cs 49), pt b4 (cel (bxHi p q).cs 49)]) (fun _u => True) ?_ ?_
 ·refine SP.quiet Tryz.fol (by kernel_rfl) ?_
  refine XL.f ?_
  refine XL.l ?_
  refine XL.f ?_
  refine XL.l ?_
  refine XL.sub_i64 rfl rfl (by omega) (by omega) rfl ?_
  refine XL.add_i64 rfl rfl (by omega) (by omega) rfl ?_
  refine XL.f ?_
  refine XL.l ?_
  refine XL.f ?_
  refine XL.l ?_
  refine XL.sub_i64 rfl rfl (by omega) (by omega) rfl ?_
  refine XL.add_i64 rfl rfl (by omega) (by omega) rfl ?_
  refine XL.f ?_
  refine XL.l ?_
  refine XL.f ?_
  refine XL.l ?_
  refine XL.sub_i64 rfl rfl (by omega) (by omega) rfl ?_
  refine XL.add_i64 rfl rfl (by omega) (by omega) rfl ?_
  refine XL.a ?_
  refine XL.a ?_
  refine XL.a ?_
  refine XL.nilq_end ?_
  refine Jp.mt () trivial
 ·rintro _ _
  refine SP.seq ?_
  refine SP.r2 ?_
  refine XL.m ?_
  refine XL.m ?_
  refine XL.m ?_
  obtain ⟨mz, hmz⟩ : ∃ mz, mz = mxI (mxI (mxI p.x q.x - mnI p.x q.x + 1) (mxI p.y q.y - mnI p.y q.y + 1)) (mxI p.z q.z - mnI p.z q.z + 1) := ⟨_, rfl⟩
  refine XL.max3 rfl rfl rfl hmz.symm rfl ?_
  have hmb : mxI p.x q.x - mnI p.x q.x + 1 ≤ mz ∧ mxI p.y q.y - mnI p.y q.y + 1 ≤ mz ∧ mxI p.z q.z - mnI p.z q.z + 1 ≤ mz := by rw [hmz]; unfold mxI; (repeat' split) <;> omega
  have hme : mz = mxI p.x q.x - mnI p.x q.x + 1 ∨ mz = mxI p.y q.y - mnI p.y q.y + 1 ∨ mz = mxI p.z q.z - mnI p.z q.z + 1 := by rw [hmz]; generalize mxI p.x q.x - mnI p.x q.x + 1 = a; generalize mxI p.y q.y - mnI p.y q.y + 1 = b; generalize mxI p.z q.z - mnI p.z q.z + 1 = c; unfold mxI; (repeat' split) <;> omega
  refine XL.gtr_s rfl rfl rfl (fun h16 => ?_) (fun h16 => ?_)
  ·exfalso; omega
  ·refine XL.m ?_
   refine XL.g ?_
   refine XL.m ?_
   refine XL.g ?_
   refine XL.m ?_
   refine XL.g ?_
   have hxy := mul_bd (a := mxI p.x q.x - mnI p.x q.x + 1) (b := mxI p.y q.y - mnI p.y q.y + 1) (A := 16) (B := 16) (by omega) (by omega)
   have hxyz := mul_bd (b := mxI p.z q.z - mnI p.z q.z + 1) (B := 16) hxy (by omega)
   refine XL.mul_i64 rfl rfl (by omega) (by omega) rfl ?_
   refine XL.g ?_
   refine XL.m ?_
   refine XL.g ?_
   refine XL.mul_i64 rfl rfl (by omega) (by omega) rfl ?_
   refine XL.g ?_
   refine XL.gtr_s rfl rfl rfl (fun h512 => ?_) (fun h512 => ?_)
   ·exfalso; omega
   ·refine XL.pick_f rfl rfl rfl ?_
    refine XL.n2 ?_
    refine SP.f ?_
    refine SP.skip ?_
    refine Jp.then_normal ?_
    refine SP.seq ?_
    refine SP.any (m := 11) Tryz.fol rfl ?_
    refine XA.tk (i := 2) rfl rfl rfl (fun _ _ _ => XL.move rfl rfl) ?_
    refine XA.tk (i := 3) rfl rfl rfl (fun _ _ _ => XL.move rfl rfl) ?_
    refine XA.tk (i := 4) rfl rfl rfl (fun _ _ _ => XL.mul_i64 rfl rfl (by omega) (by omega) rfl) ?_
    refine XA.tk (i := 5) rfl rfl rfl (fun _ _ _ => XL.move rfl rfl) ?_
    refine XA.tk (i := 6) rfl rfl rfl (fun _ _ _ => XL.mul_i64 rfl rfl (by omega) (by omega) rfl) ?_
    refine XA.two (i := 0) (j := 1) rfl rfl (by kernel_rfl) rfl rfl ?_ ?_
    ·refine XL.lA ?_
     refine XL.on ?_
     refine XA.two (i := 1) (j := 7) rfl rfl (by kernel_rfl) rfl rfl ?_ ?_
     ·refine XL.lA ?_
      refine XL.on ?_
      refine XA.o 7 ?_
      refine XL.sA ?_
      refine XL.on ?_
      refine XA.o 8 ?_
      refine XL.sA ?_
      refine XL.on ?_
      refine XA.tk (i := 9) rfl rfl rfl (fun _ _ _ => XL.assign rfl rfl) ?_
      refine XA.tk (i := 10) rfl rfl rfl (fun _ _ _ => XL.assign rfl rfl) ?_
      refine XA.done (by kernel_rfl) ?_
      refine Jp.then_normal ?_
      refine SP.ret ?_
      refine Jp.pur4 (.inr rfl) rfl (Res.cellA (by rfl)) (Res.cellA (by rfl)) rfl rfl rfl
     ·refine XL.sA ?_
      refine XL.on ?_
      refine XA.o 1 ?_
      refine XL.lA ?_
      refine XL.on ?_
      refine XA.o 8 ?_
      refine XL.sA ?_
      refine XL.on ?_
      refine XA.tk (i := 9) rfl rfl rfl (fun _ _ _ => XL.assign rfl rfl) ?_
      refine XA.tk (i := 10) rfl rfl rfl (fun _ _ _ => XL.assign rfl rfl) ?_
      refine XA.done (by kernel_rfl) ?_
      refine Jp.then_normal ?_
      refine SP.ret ?_
      refine Jp.pur4 (.inr rfl) rfl (Res.cellA (by rfl)) (Res.cellA (by rfl)) rfl rfl rfl
    ·refine XL.lA ?_
     refine XL.on ?_
     refine XA.o 0 ?_
     refine XL.lA ?_
     refine XL.on ?_
     refine XA.o 7 ?_
     refine XL.sA ?_
     refine XL.on ?_
     refine XA.o 8 ?_
     refine XL.sA ?_
     refine XL.on ?_
     refine XA.tk (i := 9) rfl rfl rfl (fun _ _ _ => XL.assign rfl rfl) ?_
     refine XA.tk (i := 10) rfl rfl rfl (fun _ _ _ => XL.assign rfl rfl) ?_
     refine XA.done (by kernel_rfl) ?_
     refine Jp.then_normal ?_
     refine SP.ret ?_
     refine Jp.pur4 (.inr rfl) rfl (Res.cellA (by rfl)) (Res.cellA (by rfl)) rfl rfl rfl
theorem c51_b (p q : Pl) (hp0 : MayQ p) (hq0 : MayQ q) (hb : ¬ BxOk p q) : Pur Tryz.prog 51 [plv p, plv q] (.tuple #[.agg #[.int .i64 0, .int .i64 0, .int .i64 0], .agg #[.int .i64 0, .int .i64 0, .int .i64 0], .int .i64 0, .int .i64 3]) := by
 refine Pcalls (n := 93) Tryz.func51 rfl rfl rfl fun W0 H0 => ?_
 have hp := hp0
 have hq := hq0
 have hx := mm_bd p.x q.x
 have hy := mm_bd p.y q.y
 have hz := mm_bd p.z q.z
 unfold MayQ MayP at hp hq
 refine SP.r2 ?_
 refine XL.boxA rfl rfl (fun b1 => ?_)
 refine XL.boxA rfl rfl (fun b2 => ?_)
 refine XL.alloc (by rfl) (fun b3 => ?_)
 refine XL.alloc (by rfl) (fun b4 => ?_)
 refine XL.a ?_
 refine XL.a ?_
 refine XL.n5 ?_
 refine SP.r2 ?_
 refine XL.lA ?_
 refine XL.cp rfl (c48 p.x p.y p.z) rfl ?_
 rw [decide_eq_true hp0]
 refine XL.not_t rfl rfl ?_
 refine XL.m ?_
 refine XL.g ?_
 refine XL.lA ?_
 refine XL.g ?_
 refine XL.cp rfl (c48 q.x q.y q.z) rfl ?_
 rw [decide_eq_true hq0]
 refine XL.g ?_
 refine XL.not_t rfl rfl ?_
 refine XL.pick_f rfl rfl rfl ?_
 refine XL.n2 ?_
 refine SP.f ?_
 refine SP.skip ?_
 refine Jp.n4 ?_
 refine XL.f ?_
 refine XL.l ?_
 refine XL.f ?_
 refine XL.l ?_
 refine XL.min2 (r := mnI p.x q.x) rfl rfl rfl rfl ?_
 refine XL.f ?_
 refine XL.l ?_
 refine XL.f ?_
 refine XL.l ?_
 refine XL.min2 (r := mnI p.y q.y) rfl rfl rfl rfl ?_
 refine XL.f ?_
 refine XL.l ?_
 refine XL.f ?_
 refine XL.l ?_
 refine XL.min2 (r := mnI p.z q.z) rfl rfl rfl rfl ?_
 refine XL.build (by rfl) (by rfl) ?_
 refine XL.sA ?_
 refine XL.n4 ?_
 refine XL.f ?_
 refine XL.l ?_
 refine XL.f ?_
 refine XL.l ?_
 refine XL.max2 (r := mxI p.x q.x) rfl rfl rfl rfl ?_
 refine XL.f ?_
 refine XL.l ?_
 refine XL.f ?_
 refine XL.l ?_
 refine XL.max2 (r := mxI p.y q.y) rfl rfl rfl rfl ?_
 refine XL.f ?_
 refine XL.l ?_
 refine XL.f ?_
 refine XL.l ?_
 refine XL.max2 (r := mxI p.z q.z) rfl rfl rfl rfl ?_
 refine XL.build (by rfl) (by rfl) ?_
 refine XL.sA ?_
 refine XL.n2 ?_
 refine SP.cut (X := Unit) (fun _u => [(8, .int .i64 (mxI p.x q.x - mnI p.x q.x + 1)), (9, .int .i64 (mxI p.y q.y - mnI p.y q.y + 1)), (10, .int .i64 (mxI p.z q.z - mnI p.z q.z + 1)), (4, .pointer (some ⟨b3, 0, none⟩)), (5, .pointer (some ⟨b4, 0, none⟩)), (6, .int .i64 0), (7, .int .i64 0)]) (fun _u => [pt b3 (cel (bxLo p q).cs 49), pt b4 (cel (bxHi p q).cs 49)]) (fun _u => True) ?_ ?_
 ·refine SP.quiet Tryz.fol (by kernel_rfl) ?_
  refine XL.f ?_
  refine XL.l ?_
  refine XL.f ?_
  refine XL.l ?_
  refine XL.sub_i64 rfl rfl (by omega) (by omega) rfl ?_
  refine XL.add_i64 rfl rfl (by omega) (by omega) rfl ?_
  refine XL.f ?_
  refine XL.l ?_
  refine XL.f ?_
  refine XL.l ?_
  refine XL.sub_i64 rfl rfl (by omega) (by omega) rfl ?_
  refine XL.add_i64 rfl rfl (by omega) (by omega) rfl ?_
  refine XL.f ?_
  refine XL.l ?_
  refine XL.f ?_
  refine XL.l ?_
  refine XL.sub_i64 rfl rfl (by omega) (by omega) rfl ?_
  refine XL.add_i64 rfl rfl (by omega) (by omega) rfl ?_
  refine XL.a ?_
  refine XL.a ?_
  refine XL.a ?_
  refine XL.nilq_end ?_
  refine Jp.mt () trivial
 ·rintro _ _
  refine SP.seq ?_
  refine SP.r2 ?_
  refine XL.m ?_
  refine XL.m ?_
  refine XL.m ?_
  obtain ⟨mz, hmz⟩ : ∃ mz, mz = mxI (mxI (mxI p.x q.x - mnI p.x q.x + 1) (mxI p.y q.y - mnI p.y q.y + 1)) (mxI p.z q.z - mnI p.z q.z + 1) := ⟨_, rfl⟩
  refine XL.max3 rfl rfl rfl hmz.symm rfl ?_
  have hmb : mxI p.x q.x - mnI p.x q.x + 1 ≤ mz ∧ mxI p.y q.y - mnI p.y q.y + 1 ≤ mz ∧ mxI p.z q.z - mnI p.z q.z + 1 ≤ mz := by rw [hmz]; unfold mxI; (repeat' split) <;> omega
  have hme : mz = mxI p.x q.x - mnI p.x q.x + 1 ∨ mz = mxI p.y q.y - mnI p.y q.y + 1 ∨ mz = mxI p.z q.z - mnI p.z q.z + 1 := by rw [hmz]; generalize mxI p.x q.x - mnI p.x q.x + 1 = a; generalize mxI p.y q.y - mnI p.y q.y + 1 = b; generalize mxI p.z q.z - mnI p.z q.z + 1 = c; unfold mxI; (repeat' split) <;> omega
  refine XL.gtr_s rfl rfl rfl (fun h16 => ?_) (fun h16 => ?_)
  ·refine XL.m ?_
   refine XL.k ?_
   refine XL.k ?_
   refine XL.k ?_
   refine XL.k ?_
   refine XL.k ?_
   refine XL.k ?_
   refine XL.pick_t rfl rfl rfl ?_
   refine XL.n2 ?_
   refine SP.t ?_
   refine SP.r2 ?_
   refine XL.build (by rfl) (by rfl) ?_
   refine XL.build (by rfl) (by rfl) ?_
   refine XL.sA ?_
   refine XL.sA ?_
   refine XL.a ?_
   refine XL.a ?_
   refine XL.n2 ?_
   refine SP.ret ?_
   refine Jp.then_ret ?_
   refine Jp.pur4 (.inr rfl) rfl (Res.cellA (by rfl)) (Res.cellA (by rfl)) rfl rfl rfl
  ·refine XL.m ?_
   refine XL.g ?_
   refine XL.m ?_
   refine XL.g ?_
   refine XL.m ?_
   refine XL.g ?_
   have hxy := mul_bd (a := mxI p.x q.x - mnI p.x q.x + 1) (b := mxI p.y q.y - mnI p.y q.y + 1) (A := 16) (B := 16) (by omega) (by omega)
   have hxyz := mul_bd (b := mxI p.z q.z - mnI p.z q.z + 1) (B := 16) hxy (by omega)
   refine XL.mul_i64 rfl rfl (by omega) (by omega) rfl ?_
   refine XL.g ?_
   refine XL.m ?_
   refine XL.g ?_
   refine XL.mul_i64 rfl rfl (by omega) (by omega) rfl ?_
   refine XL.g ?_
   refine XL.gtr_s rfl rfl rfl (fun h512 => ?_) (fun h512 => ?_)
   ·refine XL.pick_f rfl rfl rfl ?_
    refine XL.n2 ?_
    refine SP.t ?_
    refine SP.r2 ?_
    refine XL.build (by rfl) (by rfl) ?_
    refine XL.build (by rfl) (by rfl) ?_
    refine XL.sA ?_
    refine XL.sA ?_
    refine XL.a ?_
    refine XL.a ?_
    refine XL.n2 ?_
    refine SP.ret ?_
    refine Jp.then_ret ?_
    refine Jp.pur4 (.inr rfl) rfl (Res.cellA (by rfl)) (Res.cellA (by rfl)) rfl rfl rfl
   ·exact absurd ⟨hp0, hq0, by omega, by omega, by omega, by omega⟩ hb
theorem c51 (p q : Pl) : ∃ (lo hi : Pl) (n e : Int), Pur Tryz.prog 51 [plv p, plv q] (.tuple #[plv lo, plv hi, .int .i64 n, .int .i64 e]) ∧ (e = 0 → BxOk p q ∧ lo = bxLo p q ∧ hi = bxHi p q) := by
 by_cases hp : MayQ p
 ·by_cases hq : MayQ q
  ·by_cases hb : BxOk p q
   ·exact ⟨_, _, _, 0, c51_t p q hp hq hb, fun _ => ⟨hb, rfl, rfl⟩⟩
   ·exact ⟨⟨0, 0, 0⟩, ⟨0, 0, 0⟩, 0, 3, c51_b p q hp hq hb, fun h => absurd h (by decide)⟩
  ·exact ⟨⟨0, 0, 0⟩, ⟨0, 0, 0⟩, 0, 10, c51_q p q hp hq, fun h => absurd h (by decide)⟩
 ·exact ⟨⟨0, 0, 0⟩, ⟨0, 0, 0⟩, 0, 10, c51_p p q hp, fun h => absurd h (by decide)⟩
def absI (d : Int) : Int := if d < 0 then -d else d
instance : EqT Tryz.prog 131 Pl Pl.cs := EqT.arr3 (E := 3) Tryz.underlying131 (by kernel_rfl) (by kernel_rfl)
def stpR (q : Pl) (d : Int) : Pl × Bool := if MayQ (stp q d) then (stp q d, true) else (⟨0, 0, 0⟩, false)
theorem c53_r (q : Pl) (d : Int) (hd : 0 ≤ d ∧ d ≤ 5) (hq : MayQ q) : Pur Tryz.prog 53 [plv q, .int .i64 d] (.tuple #[plv (stpR q d).1, .bool (stpR q d).2]) := by
 unfold stpR
 by_cases h : MayQ (stp q d)
 ·rw [if_pos h]; exact c_Step_t q.x q.y q.z d hd.1 hd.2 hq h
 ·rw [if_neg h]; exact c_Step_f q.x q.y q.z d hd.1 hd.2 hq h
theorem stpR_may {q : Pl} {d : Int} (h : (stpR q d).2 = true) : MayQ (stpR q d).1 := by
 unfold stpR at *
 by_cases g : MayQ (stp q d)
 ·rw [if_pos g]; exact g
 ·rw [if_neg g] at h; exact absurd h (by decide)
@[reducible] def t3 (A : Nat → Int) : List Value := [.int .i64 (A 0), .int .i64 (A 1), .int .i64 (A 2)]
theorem t3_at (A : Nat → Int) {i : Nat} (h : i < 3) : GtL (t3 A) i (.int .i64 (A i)) := ⟨by
 obtain rfl | rfl | rfl : i = 0 ∨ i = 1 ∨ i = 2 := by omega
 all_goals rfl⟩
def up3 (A : Nat → Int) (i : Nat) (x : Int) : Nat → Int := fun j => if j = i then x else A j
theorem t3_st (A : Nat → Int) {i : Nat} (h : i < 3) (x : Int) : StL (t3 A) i [.int .i64 x] (t3 (up3 A i x)) := by
 obtain rfl | rfl | rfl : i = 0 ∨ i = 1 ∨ i = 2 := by omega
 all_goals exact ⟨Nat.le_of_ble_eq_true rfl, rfl⟩
theorem up3_at (A : Nat → Int) (i : Nat) (x : Int) : up3 A i x i = x := if_pos rfl
theorem up3_ne (A : Nat → Int) {i j : Nat} (x : Int) (h : j ≠ i) : up3 A i x j = A j := if_neg h
def bas3 (j : Nat) : Int := if j = 0 then 0 else if j = 1 then 4 else 2
def v3 (d : Pl) (j : Nat) : Int := if j = 0 then d.x else if j = 1 then d.y else d.z
def o3 (k : Nat) : Nat := if k = 0 then 0 else if k = 1 then 2 else 1
theorem o3_at {k : Nat} (h : k < 3) : GtL [.int .i64 0, .int .i64 2, .int .i64 1] k (.int .i64 (o3 k : Int)) := ⟨by
 obtain rfl | rfl | rfl : k = 0 ∨ k = 1 ∨ k = 2 := by omega
 all_goals rfl⟩
theorem o3_lt (k : Nat) : o3 k < 3 := by unfold o3; (repeat' split) <;> omega
theorem v3_at (d : Pl) {k : Nat} (h : k < 3) : GtL d.cs k (.int .i64 (v3 d k)) := ⟨by
 obtain rfl | rfl | rfl : k = 0 ∨ k = 1 ∨ k = 2 := by omega
 all_goals rfl⟩
theorem bas3_bd (k : Nat) : 0 ≤ bas3 k ∧ bas3 k ≤ 4 := by unfold bas3; (repeat' split) <;> omega
theorem absI_bd {x : Int} (h : -1000 ≤ x ∧ x ≤ 1000) : 0 ≤ absI x ∧ absI x ≤ 1000 ∧ (absI x = 0 → x = 0) := by unfold absI; split <;> omega
structure WaS where
 n : Nat
 A9 : Nat → Int
 A10 : Nat → Int
 A11 : Nat → Int
structure WaI (d : Pl) (w : WaS) : Prop where
 n : w.n ≤ 3
 a9 : ∀ j, j < 3 → 0 ≤ w.A9 j ∧ w.A9 j ≤ 5 ∧ (w.n ≤ j → w.A9 j = bas3 j)
 a10 : ∀ j, j < w.n → w.A10 j = absI (v3 d j) ∧ w.A10 j ≤ 1000
 a11 : ∀ j, j < w.n → w.A11 j = 1
theorem WaI.step {d : Pl} {i : Nat} {A9 A10 A11 B9 : Nat → Int} (h : WaI d ⟨i, A9, A10, A11⟩) (hi : i < 3) (hd : absI (v3 d i) ≤ 1000) (hB : ∀ j, j ≠ i → B9 j = A9 j) (hBi : 0 ≤ B9 i ∧ B9 i ≤ 5) : WaI d ⟨i + 1, B9, up3 A10 i (absI (v3 d i)), up3 A11 i 1⟩ := by
 refine ⟨by show i + 1 ≤ 3; omega, fun j hj => ?_, fun j hj => ?_, fun j hj => ?_⟩
 ·show 0 ≤ B9 j ∧ B9 j ≤ 5 ∧ (i + 1 ≤ j → B9 j = bas3 j)
  have h9 := h.a9 j hj
  have h9 : 0 ≤ A9 j ∧ A9 j ≤ 5 ∧ (i ≤ j → A9 j = bas3 j) := h9
  by_cases e : j = i
  ·subst e; exact ⟨hBi.1, hBi.2, fun h => by omega⟩
  ·rw [hB j e]; exact ⟨h9.1, h9.2.1, fun h => h9.2.2 (by omega)⟩
 ·show up3 A10 i (absI (v3 d i)) j = absI (v3 d j) ∧ up3 A10 i (absI (v3 d i)) j ≤ 1000
  have hj' : j < i + 1 := hj
  by_cases e : j = i
  ·subst e; rw [up3_at]; exact ⟨rfl, hd⟩
  ·rw [up3_ne _ _ e]; exact h.a10 j (show j < i by omega)
 ·show up3 A11 i 1 j = 1
  have hj' : j < i + 1 := hj
  by_cases e : j = i
  ·subst e; rw [up3_at]
  ·rw [up3_ne _ _ e]; exact h.a11 j (show j < i by omega)
structure WyS where
 l : List Pl
 v : Value
 q : Pl
 A : Nat → Int
structure WyI (n : Int) (w : WyS) : Prop where
 len : (w.l.length : Int) ≤ n
 q : MayQ w.q
 l : ∀ x ∈ w.l, MayQ x
 A : ∀ j, j < 3 → 0 ≤ w.A j ∧ w.A j ≤ 1 + 2 * (w.l.length : Int)
theorem WyI.step {n : Int} {l : List Pl} {v v' : Value} {q q' : Pl} {A : Nat → Int} {c : Nat} (h : WyI n ⟨l, v, q, A⟩) (hl : (l.length : Int) < n) (hq : MayQ q') (hc : c < 3) : WyI n ⟨l ++ [q'], v', q', up3 A c (A c + 2)⟩ := by
 refine ⟨by show ((l ++ [q']).length : Int) ≤ n; simp; omega, hq, fun x hx => (List.mem_append.1 hx).elim (h.l x) fun e => by rw [show x = q' by simpa using e]; exact hq, fun j hj => ?_⟩
 show 0 ≤ up3 A c (A c + 2) j ∧ up3 A c (A c + 2) j ≤ 1 + 2 * ((l ++ [q']).length : Int)
 have hA := h.A j hj
 have hA : 0 ≤ A j ∧ A j ≤ 1 + 2 * (l.length : Int) := hA
 simp only [List.length_append, List.length_singleton]
 by_cases e : j = c
 ·subst e; rw [up3_at]; omega
 ·rw [up3_ne _ _ e]; omega
theorem some3 {d : Pl} {A : Nat → Int} (hd : d ≠ ⟨0, 0, 0⟩) (hb : ∀ j, j < 3 → -1000 ≤ v3 d j ∧ v3 d j ≤ 1000) (hA : ∀ j, j < 3 → A j = absI (v3 d j) ∧ A j ≤ 1000) (hn : ∀ k, k < 3 → ¬ 0 < A (o3 k)) : False := by
 apply hd
 have z : ∀ k, k < 3 → v3 d (o3 k) = 0 := fun k hk => by
  have h1 := hn k hk
  have h2 := hA (o3 k) (o3_lt k)
  have h3 := absI_bd (hb (o3 k) (o3_lt k))
  exact h3.2.2 (by omega)
 obtain ⟨x, y, z'⟩ := d
 have h0 := z 0 (by omega); have h1 := z 1 (by omega); have h2 := z 2 (by omega)
 simp only [Pl.mk.injEq]
 exact ⟨h0, h2, h1⟩
theorem c89 (d : Int) (hd : -1000 ≤ d ∧ d ≤ 1000) : Pur Tryz.prog 89 [.int .i64 d] (.int .i64 (absI d)) := by
 refine Pcalls (n := 8) Tryz.func89 rfl rfl rfl fun W0 H0 => ?_
 refine SP.r2 ?_
 refine XL.a ?_
 refine XL.n5 ?_
 refine SP.r2 ?_
 refine XL.m ?_
 refine XL.lss_s rfl rfl rfl (fun h1 => ?_) (fun h1 => ?_)
 ·refine XL.n2 ?_
  refine SP.t ?_
  refine SP.r2 ?_
  refine XL.m ?_
  refine XL.neg (r := -d) rfl (by rw [Int.zero_sub]; exact wrap64_of (by omega) (by omega)) rfl ?_
  refine XL.a ?_
  refine XL.n2 ?_
  refine SP.ret ?_
  refine Jp.then_ret ?_
  exact Jp.pur1 (.inr rfl) rfl rfl (by unfold absI; rw [if_pos (by omega)])
 ·refine XL.n2 ?_
  refine SP.f ?_
  refine SP.skip ?_
  refine Jp.n4 ?_
  refine XL.m ?_
  refine XL.a ?_
  refine XL.n2 ?_
  refine SP.ret ?_
  exact Jp.pur1 (.inr rfl) rfl rfl (by unfold absI; rw [if_neg (by omega)])
theorem c59 (p d : Pl) (n : Int) : Tri Tryz.prog 59 [plv p, plv d, .int .i64 n] [] (fun r Γ' => ∃ (l : List Pl) (v : Value) (e : Int), r = .tuple #[v, .int .i64 e] ∧ (e = 0 → ∀ x ∈ l, MayQ x) ∧ l.length ≤ 256 ∧ Γ' = [PlS v l]) := by
 refine Pcalls (n := 119) Tryz.func59 rfl rfl rfl fun W0 H0 => ?_
 refine SP.r2 ?_
 refine XL.boxA rfl rfl (fun b1 => ?_)
 refine XL.boxA rfl rfl (fun b2 => ?_)
 refine XL.a ?_
 refine XL.a ?_
 refine XL.n2 ?_
 refine SP.scope ?_
 refine SP.seq ?_
 refine SP.r2 ?_
 refine XL.lA ?_
 refine XL.cs rfl (c48 p.x p.y p.z) rfl (fun hp => ?_) (fun hp => ?_)
 ·refine XL.not_t rfl rfl ?_
  refine XL.n2 ?_
  refine SP.f ?_
  refine SP.skip ?_
  refine Jp.then_normal ?_
  refine SP.seq ?_
  refine SP.r2 ?_
  refine XL.m ?_
  refine XL.lss_s rfl rfl rfl (fun h1 => ?_) (fun h1 => ?_)
  ·refine XL.m ?_
   refine XL.k ?_
   refine XL.k ?_
   refine XL.pick_t rfl rfl rfl ?_
   refine XL.m ?_
   refine XL.k ?_
   refine XL.k ?_
   refine XL.k ?_
   refine XL.pick_t rfl rfl rfl ?_
   refine XL.n2 ?_
   refine SP.t ?_
   refine SP.r2 ?_
   refine XL.a ?_
   refine XL.a ?_
   refine XL.n2 ?_
   refine SP.ret ?_
   refine Jp.then_ret ?_
   refine Jp.scope_ret ?_
   exact Jp.end2G (.inr rfl) rfl rfl rfl (fun h s => star_nilS (E := 49) (k := 3) h (star_nil h)) ⟨[], _, _, rfl, fun _ x hx => absurd hx (by simp), Nat.zero_le _, rfl⟩
  ·refine XL.m ?_
   refine XL.g ?_
   refine XL.m ?_
   refine XL.g ?_
   refine XL.gtr_s rfl rfl rfl (fun h2 => ?_) (fun h2 => ?_)
   ·refine XL.pick_f rfl rfl rfl ?_
    refine XL.m ?_
    refine XL.k ?_
    refine XL.k ?_
    refine XL.k ?_
    refine XL.pick_t rfl rfl rfl ?_
    refine XL.n2 ?_
    refine SP.t ?_
    refine SP.r2 ?_
    refine XL.a ?_
    refine XL.a ?_
    refine XL.n2 ?_
    refine SP.ret ?_
    refine Jp.then_ret ?_
    refine Jp.scope_ret ?_
    exact Jp.end2G (.inr rfl) rfl rfl rfl (fun h s => star_nilS (E := 49) (k := 3) h (star_nil h)) ⟨[], _, _, rfl, fun _ x hx => absurd hx (by simp), Nat.zero_le _, rfl⟩
   ·refine XL.pick_f rfl rfl rfl ?_
    refine XL.m ?_
    refine XL.g ?_
    refine XL.lA ?_
    refine XL.g ?_
    refine XL.build (by rfl) (by rfl) ?_
    refine XL.g ?_
    refine XL.eqlT d (⟨0, 0, 0⟩ : Pl) (by rfl) (by rfl) rfl (fun hz => ?_) (fun hz => ?_)
    ·refine XL.pick_f rfl rfl rfl ?_
     refine XL.n2 ?_
     refine SP.t ?_
     refine SP.r2 ?_
     refine XL.a ?_
     refine XL.a ?_
     refine XL.n2 ?_
     refine SP.ret ?_
     refine Jp.then_ret ?_
     refine Jp.scope_ret ?_
     exact Jp.end2G (.inr rfl) rfl rfl rfl (fun h s => star_nilS (E := 49) (k := 3) h (star_nil h)) ⟨[], _, _, rfl, fun _ x hx => absurd hx (by simp), Nat.zero_le _, rfl⟩
    ·refine XL.pick_f rfl rfl rfl ?_
     refine XL.n2 ?_
     refine SP.f ?_
     refine SP.skip ?_
     refine Jp.n4 ?_
     refine XL.build (by rfl) (by rfl) ?_
     refine XL.alloc (by rfl) (fun b3 => ?_)
     refine XL.sA ?_
     refine XL.n4 ?_
     refine XL.build (by rfl) (by rfl) ?_
     refine XL.alloc (by rfl) (fun b4 => ?_)
     refine XL.sA ?_
     refine XL.n4 ?_
     refine XL.alloc (by rfl) (fun b5 => ?_)
     refine XL.alloc (by rfl) (fun b6 => ?_)
     refine XL.n5 ?_
     refine SP.r2 ?_
     refine XL.lA ?_
     refine XL.m ?_
     refine XL.n2 ?_
     refine SP.block ?_
     rw [show ([.int .i64 0, .int .i64 4, .int .i64 2] : List Value) = t3 bas3 from rfl]
     refine SP.loop (X := WaS) (fun w => [(38, .int .i64 (w.n : Int)), (37, .agg d.cs.toArray), (3, .pointer (some ⟨b1, 0, none⟩)), (8, .pointer (some ⟨b3, 0, none⟩)), (9, .pointer (some ⟨b4, 0, none⟩)), (10, .pointer (some ⟨b5, 0, none⟩)), (11, .pointer (some ⟨b6, 0, none⟩)), (2, .int .i64 n)]) (fun w => [pt b1 (cel p.cs 49), pt b3 (cel [.int .i64 0, .int .i64 2, .int .i64 1] 131), pt b4 (cel (t3 w.A9) 131), pt b5 (cel (t3 w.A10) 131), pt b6 (cel (t3 w.A11) 131)]) (fun w => WaI d w ∧ ∀ j, j < w.n → -1000 ≤ v3 d j ∧ v3 d j ≤ 1000) (fun w => 3 - w.n) ⟨0, bas3, fun _ => 0, fun _ => 0⟩ ⟨⟨Nat.zero_le _, fun j _ => ⟨(bas3_bd j).1, by show bas3 j ≤ 5; have := (bas3_bd j).2; omega, fun _ => rfl⟩, fun j hj => absurd hj (Nat.not_lt_zero _), fun j hj => absurd hj (Nat.not_lt_zero _)⟩, fun j hj => absurd hj (Nat.not_lt_zero _)⟩ (by repeat' constructor) (Pk.drop (by repeat' constructor)) ?_
     rintro ⟨i, A9, A10, A11⟩ ⟨hI, hvs⟩
     dsimp only at *
     have hi : i ≤ 3 := hI.n
     refine SP.r2 ?_
     refine XL.lss_s rfl rfl rfl (fun hc => ?_) (fun hc => ?_)
     ·have hi3 : i < 3 := by omega
      have h9 := hI.a9 i hi3
      have h9e := h9.2.2 (Nat.le_refl _)
      have hbb := bas3_bd i
      dsimp only at h9 h9e
      refine XL.n5 ?_
      refine SP.t ?_
      refine SP.skip ?_
      refine Jp.then_normal ?_
      refine SP.seq ?_
      refine SP.block ?_
      refine SP.r2 ?_
      refine XL.m ?_
      refine XL.indexS (j := i) rfl rfl rfl hi3 (v3_at d hi3) rfl ?_
      refine XL.a ?_
      refine XL.a ?_
      refine XL.n5 ?_
      refine SP.r2 ?_
      refine XL.m ?_
      refine XL.lss_s rfl rfl rfl (fun hlo => ?_) (fun hlo => ?_)
      ·refine XL.m ?_
       refine XL.k ?_
       refine XL.k ?_
       refine XL.pick_t rfl rfl rfl ?_
       refine XL.n2 ?_
       refine SP.t ?_
       refine SP.r2 ?_
       refine XL.a ?_
       refine XL.a ?_
       refine XL.n2 ?_
       refine SP.ret ?_
       refine Jp.then_ret ?_
       refine Jp.block_ret ?_
       refine Jp.then_ret ?_
       refine Jp.then_ret ?_
       refine Jp.block_ret ?_
       refine Jp.then_ret ?_
       refine Jp.scope_ret ?_
       exact Jp.end2G (.inr rfl) rfl rfl rfl (fun h s => star_nilS (E := 49) (k := 3) h (star_nil h)) ⟨[], _, _, rfl, fun _ x hx => absurd hx (by simp), Nat.zero_le _, rfl⟩
      ·refine XL.m ?_
       refine XL.g ?_
       refine XL.m ?_
       refine XL.g ?_
       refine XL.gtr_s rfl rfl rfl (fun hhi => ?_) (fun hhi => ?_)
       ·refine XL.pick_f rfl rfl rfl ?_
        refine XL.n2 ?_
        refine SP.t ?_
        refine SP.r2 ?_
        refine XL.a ?_
        refine XL.a ?_
        refine XL.n2 ?_
        refine SP.ret ?_
        refine Jp.then_ret ?_
        refine Jp.block_ret ?_
        refine Jp.then_ret ?_
        refine Jp.then_ret ?_
        refine Jp.block_ret ?_
        refine Jp.then_ret ?_
        refine Jp.scope_ret ?_
        exact Jp.end2G (.inr rfl) rfl rfl rfl (fun h s => star_nilS (E := 49) (k := 3) h (star_nil h)) ⟨[], _, _, rfl, fun _ x hx => absurd hx (by simp), Nat.zero_le _, rfl⟩
       ·have hvb : -1000 ≤ v3 d i ∧ v3 d i ≤ 1000 := by omega
        have hab := absI_bd hvb
        refine XL.pick_f rfl rfl rfl ?_
        refine XL.n2 ?_
        refine SP.f ?_
        refine SP.skip ?_
        refine Jp.n4 ?_
        refine XL.m ?_
        refine XL.m ?_
        refine XL.m ?_
        refine XL.cp rfl (c89 (v3 d i) hvb) rfl ?_
        refine XL.indexArr (r := i) rfl rfl (by omega) (by omega) (by simp) rfl ?_
        refine XL.store (hs := t3_st A10 hi3 (absI (v3 d i))) rfl rfl rfl ?_
        refine XL.indexArr (r := i) rfl rfl (by omega) (by omega) (by simp) rfl ?_
        refine XL.store (hs := t3_st A11 hi3 1) rfl rfl rfl ?_
        refine XL.n4 ?_
        refine XL.m ?_
        refine XL.lss_s rfl rfl rfl (fun hneg => ?_) (fun hneg => ?_)
        ·refine XL.n2 ?_
         refine SP.t ?_
         refine SP.region ?_
         refine XL.m ?_
         refine XL.indexArr (r := i) rfl rfl (by omega) (by omega) (by simp) rfl ?_
         refine XL.load (hv := t3_at A9 (show i < 3 by omega)) rfl rfl ?_
         refine XL.add_i64 rfl rfl (by omega) (by omega) rfl ?_
         refine XL.indexArr (r := i) rfl rfl (by omega) (by omega) (by simp) rfl ?_
         refine XL.store (hs := t3_st A9 hi3 (A9 i + 1)) rfl rfl rfl ?_
         refine XL.nil ?_
         refine Jp.block_normal ?_
         refine Jp.then_normal ?_
         refine SP.region ?_
         refine XL.add_i64 rfl rfl (by omega) (by omega) rfl ?_
         refine XL.m ?_
         refine XL.nil ?_
         refine Jp.rd ⟨i + 1, up3 A9 i (A9 i + 1), up3 A10 i (absI (v3 d i)), up3 A11 i 1⟩ ⟨hI.step hi3 hab.2.1 (fun j hj => up3_ne _ _ hj) (by rw [up3_at]; omega), fun j hj => by rcases Nat.lt_succ_iff_lt_or_eq.1 hj with e | e; exact hvs j e; subst e; exact hvb⟩ (by show 3 - (i + 1) < 3 - i; omega)
        ·refine XL.n2 ?_
         refine SP.f ?_
         refine SP.skip ?_
         refine Jp.block_normal ?_
         refine Jp.then_normal ?_
         refine SP.region ?_
         refine XL.add_i64 rfl rfl (by omega) (by omega) rfl ?_
         refine XL.m ?_
         refine XL.nil ?_
         refine Jp.rd ⟨i + 1, A9, up3 A10 i (absI (v3 d i)), up3 A11 i 1⟩ ⟨hI.step hi3 hab.2.1 (fun _ _ => rfl) (by omega), fun j hj => by rcases Nat.lt_succ_iff_lt_or_eq.1 hj with e | e; exact hvs j e; subst e; exact hvb⟩ (by show 3 - (i + 1) < 3 - i; omega)
     ·refine XL.n5 ?_
      refine SP.f ?_
      refine SP.exit ?_
      refine Jp.then_exit ?_
      refine Jp.then_exit ?_
      refine Jp.block_here ?_
      refine Jp.n4 ?_
      refine XL.a ?_
      refine XL.n4 ?_
      refine XL.lA ?_
      refine XL.alloc (by rfl) (fun b7 => ?_)
      refine XL.sA ?_
      refine XL.n5 ?_
      refine SP.label ?_
      refine Jp.then_normal ?_
      refine SP.seq ?_
      refine SP.block ?_
      obtain rfl : i = 3 := by omega
      refine SP.gam (star_nilS (E := 49) (k := 3)) ?_
      have hA10 := hI.a10
      have hA9 := hI.a9
      dsimp only at hA10 hA9 hvs
      refine SP.loop (X := WyS) (fun w => [(14, w.v), (15, .pointer (some ⟨b7, 0, none⟩)), (8, .pointer (some ⟨b3, 0, none⟩)), (9, .pointer (some ⟨b4, 0, none⟩)), (10, .pointer (some ⟨b5, 0, none⟩)), (11, .pointer (some ⟨b6, 0, none⟩)), (2, .int .i64 n)]) (fun w => [PlS w.v w.l, pt b7 (cel w.q.cs 49), pt b3 (cel [.int .i64 0, .int .i64 2, .int .i64 1] 131), pt b4 (cel (t3 A9) 131), pt b5 (cel (t3 A10) 131), pt b6 (cel (t3 w.A) 131)]) (fun w => WyI n w) (fun w => n.toNat - w.l.length) ⟨[], .slice none 0 0, p, A11⟩ ⟨by show (([] : List Pl).length : Int) ≤ n; simp; omega, hp, fun x hx => absurd hx (by simp), fun j hj => by have h1 : A11 j = 1 := hI.a11 j hj; show 0 ≤ A11 j ∧ A11 j ≤ 1 + 2 * (([] : List Pl).length : Int); rw [h1]; simp⟩ (by repeat' constructor) (Pk.drop (by repeat' constructor)) ?_
      rintro ⟨l, v, q, A⟩ hW
      dsimp only at *
      have hlen : (l.length : Int) ≤ n := hW.len
      have hmq : MayQ q := hW.q
      refine SP.seq ?_
      refine SP.r2 ?_
      refine XL.m ?_
      refine XL.know (Rm.know (A := PlS v l) (by repeat' constructor) (fun _ hq => Sl'.len hq)) ?_
      rintro ⟨a, cl, ev, _⟩
      refine XL.len (a := a) (m := l.length) (c := cl) (show some v = _ by rw [ev]) rfl ?_
      refine XL.m ?_
      refine XL.lss_s rfl rfl rfl (fun hc => ?_) (fun hc => ?_)
      ·refine XL.n2 ?_
       refine SP.t ?_
       refine SP.skip ?_
       refine Jp.then_normal ?_
       refine SP.block ?_
       refine SP.r2 ?_
       refine XL.a ?_
       refine XL.n5 ?_
       refine SP.r2 ?_
       refine XL.lA ?_
       refine XL.m ?_
       refine XL.n2 ?_
       refine SP.block ?_
       refine SP.loop (X := Nat × Int) (fun w => [(68, .int .i64 (w.1 : Int)), (67, .agg #[.int .i64 0, .int .i64 2, .int .i64 1]), (16, .int .i64 w.2), (14, v), (15, .pointer (some ⟨b7, 0, none⟩)), (8, .pointer (some ⟨b3, 0, none⟩)), (9, .pointer (some ⟨b4, 0, none⟩)), (10, .pointer (some ⟨b5, 0, none⟩)), (11, .pointer (some ⟨b6, 0, none⟩)), (2, .int .i64 n)]) (fun w => [PlS v l, pt b7 (cel q.cs 49), pt b3 (cel [.int .i64 0, .int .i64 2, .int .i64 1] 131), pt b4 (cel (t3 A9) 131), pt b5 (cel (t3 A10) 131), pt b6 (cel (t3 A) 131)]) (fun w => w.1 ≤ 3 ∧ -1 ≤ w.2 ∧ w.2 < 3 ∧ (w.2 = -1 → ∀ j, j < w.1 → ¬ 0 < A10 (o3 j))) (fun w => 3 - w.1) (0, -1) ⟨Nat.zero_le _, by decide, by decide, fun _ j hj => absurd hj (Nat.not_lt_zero _)⟩ (by repeat' constructor) (Pk.drop (by repeat' constructor)) ?_
       rintro ⟨k, i6⟩ ⟨hk, h61, h62, h63⟩
       dsimp only at *
       refine SP.r2 ?_
       refine XL.lss_s rfl rfl rfl (fun hk3 => ?_) (fun hk3 => ?_)
       ·have ho := o3_lt k
        have h10 := hA10 (o3 k) ho
        have h10b := absI_bd (hvs (o3 k) ho)
        have hAo := hW.A (o3 k) ho
        dsimp only at hAo
        refine XL.n5 ?_
        refine SP.t ?_
        refine SP.skip ?_
        refine Jp.then_normal ?_
        refine SP.seq ?_
        refine SP.block ?_
        refine SP.r2 ?_
        refine XL.indexS (j := k) rfl rfl rfl (by omega) (o3_at (show k < 3 by omega)) rfl ?_
        refine XL.a ?_
        refine XL.n5 ?_
        refine SP.quiet Tryz.fol (by kernel_rfl) ?_
        refine XL.m ?_
        refine XL.indexArr (r := o3 k) rfl rfl (by omega) (by omega) (by simp) rfl ?_
        refine XL.load (hv := t3_at A10 (show o3 k < 3 by omega)) rfl rfl ?_
        refine XL.gtr_s rfl rfl rfl (fun hpos => ?_) (fun hpos => ?_)
        ·refine XL.m ?_
         refine XL.g ?_
         refine XL.m ?_
         refine XL.g ?_
         refine XL.lss_s rfl rfl rfl (fun h6n => ?_) (fun h6n => ?_)
         ·refine XL.g ?_
          refine XL.m ?_
          refine XL.k ?_
          refine XL.k ?_
          refine XL.k ?_
          refine XL.k ?_
          refine XL.k ?_
          refine XL.k ?_
          refine XL.k ?_
          refine XL.k ?_
          refine XL.k ?_
          refine XL.k ?_
          refine XL.k ?_
          refine XL.k ?_
          refine XL.k ?_
          refine XL.k ?_
          refine XL.k ?_
          refine XL.g ?_
          refine XL.pick_t rfl rfl rfl ?_
          refine XL.pick_t rfl rfl rfl ?_
          refine XL.nilq_end ?_
          refine Jp.then_normal ?_
          refine SP.t ?_
          refine SP.region ?_
          refine XL.m ?_
          refine XL.a ?_
          refine XL.nil ?_
          refine Jp.block_normal ?_
          refine Jp.then_normal ?_
          refine SP.region ?_
          refine XL.add_i64 rfl rfl (by omega) (by omega) rfl ?_
          refine XL.m ?_
          refine XL.nil ?_
          refine Jp.rd (k + 1, (o3 k : Int)) ⟨by show k + 1 ≤ 3; omega, by dsimp only; omega, by dsimp only; omega, fun h j hj => by dsimp only at h; omega⟩ (by show 3 - (k + 1) < 3 - k; omega)
         ·obtain ⟨c, rfl⟩ : ∃ c : Nat, i6 = (c : Int) := ⟨i6.toNat, by omega⟩
          have h10c := hA10 c (by omega)
          have h10d := absI_bd (hvs c (by omega))
          have hAc := hW.A c (by omega)
          dsimp only at hAc
          have m1 := mul_bd (a := A (o3 k)) (b := A10 c) (A := 600) (B := 1000) (by omega) (by omega)
          have m2 := mul_bd (a := A c) (b := A10 (o3 k)) (A := 600) (B := 1000) (by omega) (by omega)
          refine XL.g ?_
          refine XL.m ?_
          refine XL.g ?_
          refine XL.m ?_
          refine XL.g ?_
          refine XL.indexArr (r := o3 k) rfl rfl (by omega) (by omega) (by simp) rfl ?_
          refine XL.g ?_
          refine XL.load (hv := t3_at A (show o3 k < 3 by omega)) rfl rfl ?_
          refine XL.g ?_
          refine XL.m ?_
          refine XL.g ?_
          refine XL.indexArr (r := c) rfl rfl (by omega) (by omega) (by simp) rfl ?_
          refine XL.g ?_
          refine XL.load (hv := t3_at A10 (show c < 3 by omega)) rfl rfl ?_
          refine XL.g ?_
          refine XL.mul_i64 rfl rfl (by omega) (by omega) rfl ?_
          refine XL.g ?_
          refine XL.m ?_
          refine XL.g ?_
          refine XL.indexArr (r := c) rfl rfl (by omega) (by omega) (by simp) rfl ?_
          refine XL.g ?_
          refine XL.load (hv := t3_at A (show c < 3 by omega)) rfl rfl ?_
          refine XL.g ?_
          refine XL.m ?_
          refine XL.g ?_
          refine XL.indexArr (r := o3 k) rfl rfl (by omega) (by omega) (by simp) rfl ?_
          refine XL.g ?_
          refine XL.load (hv := t3_at A10 (show o3 k < 3 by omega)) rfl rfl ?_
          refine XL.g ?_
          refine XL.mul_i64 rfl rfl (by omega) (by omega) rfl ?_
          refine XL.g ?_
          refine XL.lss_s rfl rfl rfl (fun hlt => ?_) (fun hlt => ?_)
          ·refine XL.g ?_
           refine XL.pick_f rfl rfl rfl ?_
           refine XL.pick_t rfl rfl rfl ?_
           refine XL.nilq_end ?_
           refine Jp.then_normal ?_
           refine SP.t ?_
           refine SP.region ?_
           refine XL.m ?_
           refine XL.a ?_
           refine XL.nil ?_
           refine Jp.block_normal ?_
           refine Jp.then_normal ?_
           refine SP.region ?_
           refine XL.add_i64 rfl rfl (by omega) (by omega) rfl ?_
           refine XL.m ?_
           refine XL.nil ?_
           refine Jp.rd (k + 1, (o3 k : Int)) ⟨by show k + 1 ≤ 3; omega, by dsimp only; omega, by dsimp only; omega, fun h j hj => by dsimp only at h; omega⟩ (by show 3 - (k + 1) < 3 - k; omega)
          ·refine XL.g ?_
           refine XL.pick_f rfl rfl rfl ?_
           refine XL.pick_t rfl rfl rfl ?_
           refine XL.nilq_end ?_
           refine Jp.then_normal ?_
           refine SP.f ?_
           refine SP.skip ?_
           refine Jp.block_normal ?_
           refine Jp.then_normal ?_
           refine SP.region ?_
           refine XL.add_i64 rfl rfl (by omega) (by omega) rfl ?_
           refine XL.m ?_
           refine XL.nil ?_
           refine Jp.rd (k + 1, (c : Int)) ⟨by show k + 1 ≤ 3; omega, by dsimp only; omega, by dsimp only; omega, fun h j hj => by dsimp only at h; omega⟩ (by show 3 - (k + 1) < 3 - k; omega)
        ·refine XL.m ?_
         refine XL.k ?_
         refine XL.k ?_
         refine XL.k ?_
         refine XL.skipU rfl rfl rfl rfl ?_
         refine XL.skipU rfl rfl rfl rfl ?_
         refine XL.skipU rfl rfl rfl rfl ?_
         refine XL.skipU rfl rfl rfl rfl ?_
         refine XL.skipU rfl rfl rfl rfl ?_
         refine XL.skipU rfl rfl rfl rfl ?_
         refine XL.skipU rfl rfl rfl rfl ?_
         refine XL.skipU rfl rfl rfl rfl ?_
         refine XL.skipU rfl rfl rfl rfl ?_
         refine XL.skipU rfl rfl rfl rfl ?_
         refine XL.skipU rfl rfl rfl rfl ?_
         refine XL.skipU rfl rfl rfl rfl ?_
         refine XL.skipU rfl rfl rfl rfl ?_
         refine XL.skipU rfl rfl rfl rfl ?_
         refine XL.skipU rfl rfl rfl rfl ?_
         refine XL.k ?_
         refine XL.pick_f rfl rfl rfl ?_
         refine XL.nilq_end ?_
         refine Jp.then_normal ?_
         refine SP.f ?_
         refine SP.skip ?_
         refine Jp.block_normal ?_
         refine Jp.then_normal ?_
         refine SP.region ?_
         refine XL.add_i64 rfl rfl (by omega) (by omega) rfl ?_
         refine XL.m ?_
         refine XL.nil ?_
         refine Jp.rd (k + 1, i6) ⟨by show k + 1 ≤ 3; omega, by dsimp only; omega, by dsimp only; omega, fun h j hj => by rcases Nat.lt_succ_iff_lt_or_eq.1 hj with e | e; exact h63 h j e; subst e; exact hpos⟩ (by show 3 - (k + 1) < 3 - k; omega)
       ·obtain rfl : k = 3 := by omega
        obtain ⟨c, rfl⟩ : ∃ c : Nat, i6 = (c : Int) := ⟨i6.toNat, by by_cases e : i6 = -1; exact (some3 hz hvs hA10 (h63 e)).elim; omega⟩
        have hc3 : c < 3 := by omega
        have hAc := hW.A c hc3
        have h9c := hA9 c hc3
        dsimp only at hAc
        refine XL.n5 ?_
        refine SP.f ?_
        refine SP.exit ?_
        refine Jp.then_exit ?_
        refine Jp.then_exit ?_
        refine Jp.block_here ?_
        refine Jp.n4 ?_
        refine XL.m ?_
        refine XL.indexArr (r := c) rfl rfl (by omega) (by omega) (by simp) rfl ?_
        refine XL.load (hv := t3_at A (show c < 3 by omega)) rfl rfl ?_
        refine XL.add_i64 rfl rfl (by omega) (by omega) rfl ?_
        refine XL.indexArr (r := c) rfl rfl (by omega) (by omega) (by simp) rfl ?_
        refine XL.store (hs := t3_st A hc3 (A c + 2)) rfl rfl rfl ?_
        refine XL.n2 ?_
        refine SP.cut (X := Nat) (fun b => [(20, .bool (stpR q (A9 c)).2), (19, .pointer (some ⟨b, 0, none⟩)), (14, v), (15, .pointer (some ⟨b7, 0, none⟩)), (8, .pointer (some ⟨b3, 0, none⟩)), (9, .pointer (some ⟨b4, 0, none⟩)), (10, .pointer (some ⟨b5, 0, none⟩)), (11, .pointer (some ⟨b6, 0, none⟩)), (2, .int .i64 n)]) (fun b => [pt b (cel (stpR q (A9 c)).1.cs 49), PlS v l, pt b7 (cel q.cs 49), pt b3 (cel [.int .i64 0, .int .i64 2, .int .i64 1] 131), pt b4 (cel (t3 A9) 131), pt b5 (cel (t3 A10) 131), pt b6 (cel (t3 (up3 A c (A c + 2))) 131)]) (fun b => True) ?_ ?_
        ·refine SP.any (m := 11) Tryz.fol rfl ?_
         refine XA.tk (i := 1) rfl rfl rfl (fun _ _ _ => XL.move rfl rfl) ?_
         refine XA.tk (i := 2) rfl rfl rfl (fun _ _ _ => XL.indexArr (r := c) rfl rfl (by omega) (by omega) (by simp) rfl) ?_
         refine XA.many [0, 3, 8] (by kernel_rfl) rfl ?_
         refine XO.cons (i := 0) rfl rfl ?_ ?_
         ·refine XL.lA ?_
          refine XL.on ?_
          refine XA.two (i := 3) (j := 8) rfl rfl (by kernel_rfl) rfl rfl ?_ ?_
          ·refine XL.load (hv := t3_at A9 (show c < 3 by omega)) rfl rfl ?_
           refine XL.on ?_
           refine XA.two (i := 4) (j := 8) rfl rfl (by kernel_rfl) rfl rfl ?_ ?_
           ·refine XL.cp rfl (c53_r q (A9 c) ⟨h9c.1, h9c.2.1⟩ hmq) rfl ?_
            refine XL.on ?_
            refine XA.tk (i := 5) rfl rfl rfl (fun _ _ _ => XL.move rfl rfl) ?_
            refine XA.tk (i := 6) rfl rfl rfl (fun _ _ _ => XL.extract rfl rfl rfl) ?_
            refine XA.tk (i := 7) rfl rfl rfl (fun _ _ _ => XL.extract rfl rfl rfl) ?_
            refine XA.o 8 ?_
            refine XL.alloc (by rfl) (fun b8 => ?_)
            refine XL.on ?_
            refine XA.o 9 ?_
            refine XL.sA ?_
            refine XL.on ?_
            refine XA.tk (i := 10) rfl rfl rfl (fun _ _ _ => XL.assign rfl rfl) ?_
            refine XA.done (by kernel_rfl) ?_
            refine Jp.mt b8 trivial
           ·refine XL.alloc (by rfl) (fun b8 => ?_)
            refine XL.on ?_
            refine XA.o 4 ?_
            refine XL.cp rfl (c53_r q (A9 c) ⟨h9c.1, h9c.2.1⟩ hmq) rfl ?_
            refine XL.on ?_
            refine XA.tk (i := 5) rfl rfl rfl (fun _ _ _ => XL.move rfl rfl) ?_
            refine XA.tk (i := 6) rfl rfl rfl (fun _ _ _ => XL.extract rfl rfl rfl) ?_
            refine XA.tk (i := 7) rfl rfl rfl (fun _ _ _ => XL.extract rfl rfl rfl) ?_
            refine XA.o 9 ?_
            refine XL.sA ?_
            refine XL.on ?_
            refine XA.tk (i := 10) rfl rfl rfl (fun _ _ _ => XL.assign rfl rfl) ?_
            refine XA.done (by kernel_rfl) ?_
            refine Jp.mt b8 trivial
          ·refine XL.alloc (by rfl) (fun b8 => ?_)
           refine XL.on ?_
           refine XA.o 3 ?_
           refine XL.load (hv := t3_at A9 (show c < 3 by omega)) rfl rfl ?_
           refine XL.on ?_
           refine XA.o 4 ?_
           refine XL.cp rfl (c53_r q (A9 c) ⟨h9c.1, h9c.2.1⟩ hmq) rfl ?_
           refine XL.on ?_
           refine XA.tk (i := 5) rfl rfl rfl (fun _ _ _ => XL.move rfl rfl) ?_
           refine XA.tk (i := 6) rfl rfl rfl (fun _ _ _ => XL.extract rfl rfl rfl) ?_
           refine XA.tk (i := 7) rfl rfl rfl (fun _ _ _ => XL.extract rfl rfl rfl) ?_
           refine XA.o 9 ?_
           refine XL.sA ?_
           refine XL.on ?_
           refine XA.tk (i := 10) rfl rfl rfl (fun _ _ _ => XL.assign rfl rfl) ?_
           refine XA.done (by kernel_rfl) ?_
           refine Jp.mt b8 trivial
         refine XO.cons (i := 3) rfl rfl ?_ ?_
         ·refine XL.load (hv := t3_at A9 (show c < 3 by omega)) rfl rfl ?_
          refine XL.on ?_
          refine XA.two (i := 0) (j := 8) rfl rfl (by kernel_rfl) rfl rfl ?_ ?_
          ·refine XL.lA ?_
           refine XL.on ?_
           refine XA.two (i := 4) (j := 8) rfl rfl (by kernel_rfl) rfl rfl ?_ ?_
           ·refine XL.cp rfl (c53_r q (A9 c) ⟨h9c.1, h9c.2.1⟩ hmq) rfl ?_
            refine XL.on ?_
            refine XA.tk (i := 5) rfl rfl rfl (fun _ _ _ => XL.move rfl rfl) ?_
            refine XA.tk (i := 6) rfl rfl rfl (fun _ _ _ => XL.extract rfl rfl rfl) ?_
            refine XA.tk (i := 7) rfl rfl rfl (fun _ _ _ => XL.extract rfl rfl rfl) ?_
            refine XA.o 8 ?_
            refine XL.alloc (by rfl) (fun b8 => ?_)
            refine XL.on ?_
            refine XA.o 9 ?_
            refine XL.sA ?_
            refine XL.on ?_
            refine XA.tk (i := 10) rfl rfl rfl (fun _ _ _ => XL.assign rfl rfl) ?_
            refine XA.done (by kernel_rfl) ?_
            refine Jp.mt b8 trivial
           ·refine XL.alloc (by rfl) (fun b8 => ?_)
            refine XL.on ?_
            refine XA.o 4 ?_
            refine XL.cp rfl (c53_r q (A9 c) ⟨h9c.1, h9c.2.1⟩ hmq) rfl ?_
            refine XL.on ?_
            refine XA.tk (i := 5) rfl rfl rfl (fun _ _ _ => XL.move rfl rfl) ?_
            refine XA.tk (i := 6) rfl rfl rfl (fun _ _ _ => XL.extract rfl rfl rfl) ?_
            refine XA.tk (i := 7) rfl rfl rfl (fun _ _ _ => XL.extract rfl rfl rfl) ?_
            refine XA.o 9 ?_
            refine XL.sA ?_
            refine XL.on ?_
            refine XA.tk (i := 10) rfl rfl rfl (fun _ _ _ => XL.assign rfl rfl) ?_
            refine XA.done (by kernel_rfl) ?_
            refine Jp.mt b8 trivial
          ·refine XL.alloc (by rfl) (fun b8 => ?_)
           refine XL.on ?_
           refine XA.o 0 ?_
           refine XL.lA ?_
           refine XL.on ?_
           refine XA.o 4 ?_
           refine XL.cp rfl (c53_r q (A9 c) ⟨h9c.1, h9c.2.1⟩ hmq) rfl ?_
           refine XL.on ?_
           refine XA.tk (i := 5) rfl rfl rfl (fun _ _ _ => XL.move rfl rfl) ?_
           refine XA.tk (i := 6) rfl rfl rfl (fun _ _ _ => XL.extract rfl rfl rfl) ?_
           refine XA.tk (i := 7) rfl rfl rfl (fun _ _ _ => XL.extract rfl rfl rfl) ?_
           refine XA.o 9 ?_
           refine XL.sA ?_
           refine XL.on ?_
           refine XA.tk (i := 10) rfl rfl rfl (fun _ _ _ => XL.assign rfl rfl) ?_
           refine XA.done (by kernel_rfl) ?_
           refine Jp.mt b8 trivial
         refine XO.cons (i := 8) rfl rfl ?_ ?_
         ·refine XL.alloc (by rfl) (fun b8 => ?_)
          refine XL.on ?_
          refine XA.two (i := 0) (j := 3) rfl rfl (by kernel_rfl) rfl rfl ?_ ?_
          ·refine XL.lA ?_
           refine XL.on ?_
           refine XA.o 3 ?_
           refine XL.load (hv := t3_at A9 (show c < 3 by omega)) rfl rfl ?_
           refine XL.on ?_
           refine XA.o 4 ?_
           refine XL.cp rfl (c53_r q (A9 c) ⟨h9c.1, h9c.2.1⟩ hmq) rfl ?_
           refine XL.on ?_
           refine XA.tk (i := 5) rfl rfl rfl (fun _ _ _ => XL.move rfl rfl) ?_
           refine XA.tk (i := 6) rfl rfl rfl (fun _ _ _ => XL.extract rfl rfl rfl) ?_
           refine XA.tk (i := 7) rfl rfl rfl (fun _ _ _ => XL.extract rfl rfl rfl) ?_
           refine XA.o 9 ?_
           refine XL.sA ?_
           refine XL.on ?_
           refine XA.tk (i := 10) rfl rfl rfl (fun _ _ _ => XL.assign rfl rfl) ?_
           refine XA.done (by kernel_rfl) ?_
           refine Jp.mt b8 trivial
          ·refine XL.load (hv := t3_at A9 (show c < 3 by omega)) rfl rfl ?_
           refine XL.on ?_
           refine XA.o 0 ?_
           refine XL.lA ?_
           refine XL.on ?_
           refine XA.o 4 ?_
           refine XL.cp rfl (c53_r q (A9 c) ⟨h9c.1, h9c.2.1⟩ hmq) rfl ?_
           refine XL.on ?_
           refine XA.tk (i := 5) rfl rfl rfl (fun _ _ _ => XL.move rfl rfl) ?_
           refine XA.tk (i := 6) rfl rfl rfl (fun _ _ _ => XL.extract rfl rfl rfl) ?_
           refine XA.tk (i := 7) rfl rfl rfl (fun _ _ _ => XL.extract rfl rfl rfl) ?_
           refine XA.o 9 ?_
           refine XL.sA ?_
           refine XL.on ?_
           refine XA.tk (i := 10) rfl rfl rfl (fun _ _ _ => XL.assign rfl rfl) ?_
           refine XA.done (by kernel_rfl) ?_
           refine Jp.mt b8 trivial
         exact XO.nil
        ·rintro b8 _
         refine SP.seq ?_
         refine SP.r2 ?_
         rcases hok : (stpR q (A9 c)).2 with _ | _
         ·refine XL.m ?_
          refine XL.not_f rfl rfl ?_
          refine XL.n2 ?_
          refine SP.t ?_
          refine SP.exit ?_
          refine Jp.then_exit ?_
          refine Jp.block_there rfl ?_
          refine Jp.then_exit ?_
          refine Jp.block_here ?_
          refine Jp.n4 ?_
          refine XL.m ?_
          refine XL.a ?_
          refine XL.a ?_
          refine XL.n2 ?_
          refine SP.ret ?_
          refine Jp.scope_ret ?_
          exact Jp.end2G (.inr rfl) rfl rfl rfl (Pk.drop (Γ1 := [PlS v l]) (by repeat' constructor)) ⟨l, v, 0, rfl, fun _ => hW.l, by omega, rfl⟩
         ·refine XL.m ?_
          refine XL.not_t rfl rfl ?_
          refine XL.n2 ?_
          refine SP.f ?_
          refine SP.skip ?_
          refine Jp.n4 ?_
          refine XL.lA ?_
          refine XL.sA ?_
          refine XL.n3 ?_
          refine XL.m ?_
          refine XL.lA ?_
          refine XL.buildSlice (by rfl) (by rfl) (by rfl) (by decide) rfl (fun b9 => ?_)
          refine XL.append (k := 3) (z := [.int .i64 0, .int .i64 0, .int .i64 0]) (bt := 24) (xs := l.flatMap Pl.cs) (ys := Pl.cs (stpR q (A9 c)).1) (m := l.length) (m2 := 1) rfl rfl ⟨_, Tryz.underlying61⟩ (by repeat' constructor) rfl rfl rfl (by omega) rfl rfl (fun v2 => ?_)
          rw [PlS_snoc' v2 l (stpR q (A9 c)).1]
          refine XL.a ?_
          refine XL.nil ?_
          refine Jp.block_normal ?_
          refine Jp.rd ⟨l ++ [(stpR q (A9 c)).1], v2, (stpR q (A9 c)).1, up3 A c (A c + 2)⟩ (hW.step hc (stpR_may hok) hc3) (by show n.toNat - (l ++ [(stpR q (A9 c)).1]).length < n.toNat - l.length; simp; omega)
      ·refine XL.n2 ?_
       refine SP.f ?_
       refine SP.exit ?_
       refine Jp.then_exit ?_
       refine Jp.then_exit ?_
       refine Jp.block_here ?_
       refine Jp.n4 ?_
       refine XL.m ?_
       refine XL.a ?_
       refine XL.a ?_
       refine XL.n2 ?_
       refine SP.ret ?_
       refine Jp.scope_ret ?_
       exact Jp.end2G (.inr rfl) rfl rfl rfl (Pk.drop (Γ1 := [PlS v l]) (by repeat' constructor)) ⟨l, v, 0, rfl, fun _ => hW.l, by omega, rfl⟩
 ·refine XL.not_f rfl rfl ?_
  refine XL.n2 ?_
  refine SP.t ?_
  refine SP.r2 ?_
  refine XL.a ?_
  refine XL.a ?_
  refine XL.n2 ?_
  refine SP.ret ?_
  refine Jp.then_ret ?_
  refine Jp.scope_ret ?_
  exact Jp.end2G (.inr rfl) rfl rfl rfl (fun h s => star_nilS (E := 49) (k := 3) h (star_nil h)) ⟨[], _, _, rfl, fun _ x hx => absurd hx (by simp), Nat.zero_le _, rfl⟩
end Go.Proofs

namespace Go.Proofs
open Go.Bk
theorem c35 (m r : Nat) (s : St) (g : Fld) (p d : Pl) (n : Int) : Tri Tryz.prog 35 [.iface 24 (mp m), plv p, plv d, .int .i64 n] [Mb m r s, FieldR r g] (fun v Γ' => ∃ (q : Pl) (c : C2) (k e : Int), v = .tuple #[plv q, c2v c, .int .i64 k, .int .i64 e] ∧ Γ' = [Mb m r s, FieldR r g]) := by
 refine Pcalls (n := 65) Tryz.func35 rfl rfl rfl fun W0 H0 => ?_
 refine SP.know (Rm.know (by repeat' constructor) FieldR.rng) ?_
 intro hrg
 refine SP.r2 ?_
 refine XL.boxA rfl rfl (fun b1 => ?_)
 refine XL.boxA rfl rfl (fun b2 => ?_)
 refine XL.alloc (by rfl) (fun b3 => ?_)
 refine XL.alloc (by rfl) (fun b4 => ?_)
 refine XL.a ?_
 refine XL.a ?_
 refine XL.n5 ?_
 refine SP.r2 ?_
 refine XL.m ?_
 refine XL.innil_eql rfl Tryz.underlying82 rfl ?_
 refine XL.n2 ?_
 refine SP.f ?_
 refine SP.skip ?_
 refine Jp.n4 ?_
 refine XL.lA ?_
 refine XL.f ?_
 refine XL.l ?_
 refine XL.f ?_
 refine XL.l ?_
 refine XL.f ?_
 refine XL.l ?_
 refine XL.build (by rfl) (by rfl) ?_
 refine XL.m ?_
 refine XL.cw rfl (c59 p d n) (Pk.nil _) rfl ?_
 rintro _ _ ⟨l, v, e, rfl, hml, hll, rfl⟩
 refine XL.app1 ?_
 refine XL.m ?_
 refine XL.x ?_
 refine XL.x ?_
 refine XL.a ?_
 refine XL.a ?_
 refine XL.n5 ?_
 refine SP.r2 ?_
 refine XL.m ?_
 by_cases he : e = 0
 ·subst he
  refine XL.neq_f rfl rfl rfl rfl ?_
  have hml := hml rfl
  refine XL.know (Rm.know (A := PlS v l) (by repeat' constructor) (fun _ hq => Sl'.len hq)) ?_
  rintro ⟨a, cl, rfl, _⟩
  refine XL.n2 ?_
  refine SP.f ?_
  refine SP.skip ?_
  refine Jp.then_normal ?_
  refine SP.seq ?_
  refine SP.r2 ?_
  refine XL.m ?_
  refine XL.len (by rfl) (by rfl) ?_
  refine XL.m ?_
  refine XL.n2 ?_
  refine SP.block ?_
  refine SP.loop (X := Nat) (fun i => [(41, .int .i64 (i : Int)), (40, .int .i64 (l.length : Int)), (39, .slice a l.length cl), (0, .iface 24 (mp m)), (8, .pointer (some ⟨b3, 0, none⟩)), (9, .pointer (some ⟨b4, 0, none⟩))]) (fun i => [pt b3 (cel [.int .i64 0, .int .i64 0, .int .i64 0] 49), pt b4 (cel [.int .u8 0, .int .u8 0] 51), PlS (.slice a l.length cl) l, Mb m r s, FieldR r g]) (fun i => i ≤ l.length) (fun i => l.length - i) 0 (Nat.zero_le _) (by repeat' constructor) (Pk.drop (by repeat' constructor)) ?_
  rintro i hi
  refine SP.r2 ?_
  refine XL.lss_s rfl rfl rfl (fun hc => ?_) (fun hc => ?_)
  ·obtain ⟨x, hgx⟩ : ∃ x, l[i]? = some x := ⟨_, List.getElem?_eq_getElem (show i < l.length by omega)⟩
   have hxm := hml x (List.mem_of_getElem? hgx)
   have hxr := (hrg x hxm).1
   unfold C2.rng at hxr
   refine XL.know (Rm.know (A := PlS _ l) (by repeat' constructor) (fun _ hq => Sl'.ptr hq (by omega))) ?_
   rintro ⟨bl, cl', el, _⟩
   obtain rfl : a = some ⟨bl, 0, none⟩ := by injection el
   refine XL.n5 ?_
   refine SP.t ?_
   refine SP.skip ?_
   refine Jp.then_normal ?_
   refine SP.seq ?_
   refine SP.block ?_
   refine SP.r2 ?_
   refine XL.m ?_
   refine XL.indexSl (r := i * 3) rfl rfl (by omega) (by omega) (by simp) rfl ?_
   refine XL.loadA (hs := SbL.flat Pl.len hgx rfl) rfl rfl ?_
   refine XL.alloc (by rfl) (fun b5 => ?_)
   refine XL.a ?_
   refine XL.sA ?_
   refine XL.n4 ?_
   refine XL.m ?_
   refine XL.lA ?_
   refine XL.ir (r := (g.cell x).v) rfl rfl (F_Cell m r s g x hxm) (by repeat' constructor) rfl ?_
   refine XL.alloc (by rfl) (fun b6 => ?_)
   refine XL.sA ?_
   refine XL.n4 ?_
   refine XL.lA ?_
   refine XL.cs rfl (c60 (g.cell x).a (g.cell x).b hxr.1 hxr.2.1 hxr.2.2.1 hxr.2.2.2) rfl (fun hm => ?_) (fun hm => ?_)
   ·refine XL.not_t rfl rfl ?_
    refine XL.m ?_
    refine XL.g ?_
    refine XL.f ?_
    refine XL.g ?_
    refine XL.l ?_
    refine XL.g ?_
    refine XL.cs rfl (c61 (g.cell x).a hxr.1 hxr.2.1) rfl (fun hk => ?_) (fun hk => ?_)
    ·refine XL.g ?_
     refine XL.not_t rfl rfl ?_
     refine XL.pick_f rfl rfl rfl ?_
     refine XL.n2 ?_
     refine SP.f ?_
     refine SP.skip ?_
     refine Jp.block_normal ?_
     refine Jp.then_normal ?_
     refine SP.region ?_
     refine XL.add_i64 rfl rfl (by omega) (by omega) rfl ?_
     refine XL.m ?_
     refine XL.nil ?_
     refine Jp.rd (i + 1) (by omega) (by omega)
    ·refine XL.g ?_
     refine XL.not_f rfl rfl ?_
     refine XL.pick_f rfl rfl rfl ?_
     refine XL.n2 ?_
     refine SP.t ?_
     refine SP.seq ?_
     refine SP.any (m := 8) Tryz.fol rfl ?_
     refine XA.tk (i := 2) rfl rfl rfl (fun _ _ _ => XL.move rfl rfl) ?_
     refine XA.tk (i := 3) rfl rfl rfl (fun _ _ _ => XL.add_i64 rfl rfl (by omega) (by omega) rfl) ?_
     refine XA.two (i := 0) (j := 1) rfl rfl (by kernel_rfl) rfl rfl ?_ ?_
     ·refine XL.lA ?_
      refine XL.on ?_
      refine XA.two (i := 1) (j := 4) rfl rfl (by kernel_rfl) rfl rfl ?_ ?_
      ·refine XL.lA ?_
       refine XL.on ?_
       refine XA.o 4 ?_
       refine XL.sA ?_
       refine XL.on ?_
       refine XA.o 5 ?_
       refine XL.sA ?_
       refine XL.on ?_
       refine XA.tk (i := 6) rfl rfl rfl (fun _ _ _ => XL.assign rfl rfl) ?_
       refine XA.tk (i := 7) rfl rfl rfl (fun _ _ _ => XL.assign rfl rfl) ?_
       refine XA.done (by kernel_rfl) ?_
       refine Jp.then_normal ?_
       refine SP.ret ?_
       refine Jp.block_ret ?_
       refine Jp.then_ret ?_
       refine Jp.then_ret ?_
       refine Jp.block_ret ?_
       refine Jp.then_ret ?_
       exact Jp.end4G (.inr rfl) rfl (Res.cellA (by rfl)) (Res.cellA (by rfl)) rfl rfl (Pk.drop (Γ1 := [Mb m r s, FieldR r g]) (by repeat' constructor)) ⟨x, g.cell x, _, _, rfl, rfl⟩
      ·refine XL.sA ?_
       refine XL.on ?_
       refine XA.o 1 ?_
       refine XL.lA ?_
       refine XL.on ?_
       refine XA.o 5 ?_
       refine XL.sA ?_
       refine XL.on ?_
       refine XA.tk (i := 6) rfl rfl rfl (fun _ _ _ => XL.assign rfl rfl) ?_
       refine XA.tk (i := 7) rfl rfl rfl (fun _ _ _ => XL.assign rfl rfl) ?_
       refine XA.done (by kernel_rfl) ?_
       refine Jp.then_normal ?_
       refine SP.ret ?_
       refine Jp.block_ret ?_
       refine Jp.then_ret ?_
       refine Jp.then_ret ?_
       refine Jp.block_ret ?_
       refine Jp.then_ret ?_
       exact Jp.end4G (.inr rfl) rfl (Res.cellA (by rfl)) (Res.cellA (by rfl)) rfl rfl (Pk.drop (Γ1 := [Mb m r s, FieldR r g]) (by repeat' constructor)) ⟨x, g.cell x, _, _, rfl, rfl⟩
     ·refine XL.lA ?_
      refine XL.on ?_
      refine XA.o 0 ?_
      refine XL.lA ?_
      refine XL.on ?_
      refine XA.o 4 ?_
      refine XL.sA ?_
      refine XL.on ?_
      refine XA.o 5 ?_
      refine XL.sA ?_
      refine XL.on ?_
      refine XA.tk (i := 6) rfl rfl rfl (fun _ _ _ => XL.assign rfl rfl) ?_
      refine XA.tk (i := 7) rfl rfl rfl (fun _ _ _ => XL.assign rfl rfl) ?_
      refine XA.done (by kernel_rfl) ?_
      refine Jp.then_normal ?_
      refine SP.ret ?_
      refine Jp.block_ret ?_
      refine Jp.then_ret ?_
      refine Jp.then_ret ?_
      refine Jp.block_ret ?_
      refine Jp.then_ret ?_
      exact Jp.end4G (.inr rfl) rfl (Res.cellA (by rfl)) (Res.cellA (by rfl)) rfl rfl (Pk.drop (Γ1 := [Mb m r s, FieldR r g]) (by repeat' constructor)) ⟨x, g.cell x, _, _, rfl, rfl⟩
   ·refine XL.not_f rfl rfl ?_
    refine XL.m ?_
    refine XL.k ?_
    refine XL.k ?_
    refine XL.k ?_
    refine XL.k ?_
    refine XL.pick_t rfl rfl rfl ?_
    refine XL.n2 ?_
    refine SP.t ?_
    refine SP.seq ?_
    refine SP.any (m := 8) Tryz.fol rfl ?_
    refine XA.tk (i := 2) rfl rfl rfl (fun _ _ _ => XL.move rfl rfl) ?_
    refine XA.tk (i := 3) rfl rfl rfl (fun _ _ _ => XL.add_i64 rfl rfl (by omega) (by omega) rfl) ?_
    refine XA.two (i := 0) (j := 1) rfl rfl (by kernel_rfl) rfl rfl ?_ ?_
    ·refine XL.lA ?_
     refine XL.on ?_
     refine XA.two (i := 1) (j := 4) rfl rfl (by kernel_rfl) rfl rfl ?_ ?_
     ·refine XL.lA ?_
      refine XL.on ?_
      refine XA.o 4 ?_
      refine XL.sA ?_
      refine XL.on ?_
      refine XA.o 5 ?_
      refine XL.sA ?_
      refine XL.on ?_
      refine XA.tk (i := 6) rfl rfl rfl (fun _ _ _ => XL.assign rfl rfl) ?_
      refine XA.tk (i := 7) rfl rfl rfl (fun _ _ _ => XL.assign rfl rfl) ?_
      refine XA.done (by kernel_rfl) ?_
      refine Jp.then_normal ?_
      refine SP.ret ?_
      refine Jp.block_ret ?_
      refine Jp.then_ret ?_
      refine Jp.then_ret ?_
      refine Jp.block_ret ?_
      refine Jp.then_ret ?_
      exact Jp.end4G (.inr rfl) rfl (Res.cellA (by rfl)) (Res.cellA (by rfl)) rfl rfl (Pk.drop (Γ1 := [Mb m r s, FieldR r g]) (by repeat' constructor)) ⟨x, g.cell x, _, _, rfl, rfl⟩
     ·refine XL.sA ?_
      refine XL.on ?_
      refine XA.o 1 ?_
      refine XL.lA ?_
      refine XL.on ?_
      refine XA.o 5 ?_
      refine XL.sA ?_
      refine XL.on ?_
      refine XA.tk (i := 6) rfl rfl rfl (fun _ _ _ => XL.assign rfl rfl) ?_
      refine XA.tk (i := 7) rfl rfl rfl (fun _ _ _ => XL.assign rfl rfl) ?_
      refine XA.done (by kernel_rfl) ?_
      refine Jp.then_normal ?_
      refine SP.ret ?_
      refine Jp.block_ret ?_
      refine Jp.then_ret ?_
      refine Jp.then_ret ?_
      refine Jp.block_ret ?_
      refine Jp.then_ret ?_
      exact Jp.end4G (.inr rfl) rfl (Res.cellA (by rfl)) (Res.cellA (by rfl)) rfl rfl (Pk.drop (Γ1 := [Mb m r s, FieldR r g]) (by repeat' constructor)) ⟨x, g.cell x, _, _, rfl, rfl⟩
    ·refine XL.lA ?_
     refine XL.on ?_
     refine XA.o 0 ?_
     refine XL.lA ?_
     refine XL.on ?_
     refine XA.o 4 ?_
     refine XL.sA ?_
     refine XL.on ?_
     refine XA.o 5 ?_
     refine XL.sA ?_
     refine XL.on ?_
     refine XA.tk (i := 6) rfl rfl rfl (fun _ _ _ => XL.assign rfl rfl) ?_
     refine XA.tk (i := 7) rfl rfl rfl (fun _ _ _ => XL.assign rfl rfl) ?_
     refine XA.done (by kernel_rfl) ?_
     refine Jp.then_normal ?_
     refine SP.ret ?_
     refine Jp.block_ret ?_
     refine Jp.then_ret ?_
     refine Jp.then_ret ?_
     refine Jp.block_ret ?_
     refine Jp.then_ret ?_
     exact Jp.end4G (.inr rfl) rfl (Res.cellA (by rfl)) (Res.cellA (by rfl)) rfl rfl (Pk.drop (Γ1 := [Mb m r s, FieldR r g]) (by repeat' constructor)) ⟨x, g.cell x, _, _, rfl, rfl⟩
  ·refine XL.n5 ?_
   refine SP.f ?_
   refine SP.exit ?_
   refine Jp.then_exit ?_
   refine Jp.then_exit ?_
   refine Jp.block_here ?_
   refine Jp.n4 ?_
   refine XL.build (by rfl) (by rfl) ?_
   refine XL.build (by rfl) (by rfl) ?_
   refine XL.sA ?_
   refine XL.sA ?_
   refine XL.a ?_
   refine XL.a ?_
   refine XL.n2 ?_
   refine SP.ret ?_
   exact Jp.end4G (.inr rfl) rfl (Res.cellA (by rfl)) (Res.cellA (by rfl)) rfl rfl (Pk.drop (Γ1 := [Mb m r s, FieldR r g]) (by repeat' constructor)) ⟨⟨0, 0, 0⟩, ⟨0, 0⟩, _, _, rfl, rfl⟩
 ·refine XL.neq_t rfl rfl he rfl ?_
  refine XL.n2 ?_
  refine SP.t ?_
  refine SP.r2 ?_
  refine XL.build (by rfl) (by rfl) ?_
  refine XL.build (by rfl) (by rfl) ?_
  refine XL.m ?_
  refine XL.sA ?_
  refine XL.sA ?_
  refine XL.a ?_
  refine XL.a ?_
  refine XL.n2 ?_
  refine SP.ret ?_
  refine Jp.then_ret ?_
  exact Jp.end4G (.inr rfl) rfl (Res.cellA (by rfl)) (Res.cellA (by rfl)) rfl rfl (Pk.drop (Γ1 := [Mb m r s, FieldR r g]) (by repeat' constructor)) ⟨⟨0, 0, 0⟩, ⟨0, 0⟩, _, _, rfl, rfl⟩
structure OpR where
 kind : Int
 p : Pl
 q : Pl
 c : C2
 n : Int
@[reducible] def OpR.cs (o : OpR) : List Value := [.int .i64 o.kind, .int .i64 o.p.x, .int .i64 o.p.y, .int .i64 o.p.z, .int .i64 o.q.x, .int .i64 o.q.y, .int .i64 o.q.z, .int .u8 o.c.a, .int .u8 o.c.b, .int .i64 o.n]
def FillC : Prop := ∀ (m r : Nat) (s : St) (g : Fld) (hs : StOk s) (p q : Pl) (c : C2) (hc : C2.rng c), Tri Tryz.prog 29 [.iface 24 (mp m), mp m, plv p, plv q, c2v c] [Mb m r s, FieldR r g] (fun v Γ' => ∃ (s' : St) (g' : Fld) (e : Int), v = .int .i64 e ∧ Kp s g s' g' ∧ Γ' = [Mb m r s', FieldR r g'])
structure DoOk (o : OpR) (s : St) (g : Fld) (s' : St) (g' : Fld) (an : List Value) : Prop where
 kp : Kp s g s' g'
 set : o.kind = 1 → MayQ o.p → MayC o.c.a o.c.b → o.c.a ≠ 1 → (g.cell o.p).a ≠ 1 → an[0]? = some (.int .i64 0) ∧ EdOk s g o.p o.c s' g'
 look : o.kind = 7 → MayQ o.p → s' = s ∧ g' = g ∧ an = [.int .i64 0, .int .i64 0, .int .i64 0, .int .i64 0, .int .u8 (g.cell o.p).a, .int .u8 (g.cell o.p).b, .int .u8 (g.light o.p).a, .int .u8 (g.light o.p).b, .int .i64 (g.due o.p), .int .i64 0, .int .i64 0, .int .i64 0, .int .i64 0, .int .i64 0]
 len : an.length = 14
 sca : an.all Bk.sca = true
theorem DoOk.plain {o : OpR} {s s' : St} {g g' : Fld} {an : List Value} (h : Kp s g s' g') (h1 : o.kind ≠ 1) (h7 : o.kind ≠ 7) (hl : an.length = 14) (hc : an.all Bk.sca = true) : DoOk o s g s' g' an := ⟨h, fun e => absurd e h1, fun e => absurd e h7, hl, hc⟩
theorem c27 (b1 b2 m r : Nat) (s : St) : Tri Tryz.prog 27 [.pointer (some ⟨b1, 0, none⟩), .pointer (some ⟨b2, 0, none⟩)] [pt b1 (cel [mp m] 44), pt b2 (cel [.int .i64 0, .int .i64 0, .int .i64 0, .int .i64 0, .int .u8 0, .int .u8 0, .int .u8 0, .int .u8 0, .int .i64 0, .int .i64 0, .int .i64 0, .int .i64 0, .int .i64 0, .int .i64 0] 55), Mb m r s] (fun v Γ' => v = .tuple #[] ∧ Γ' = [pt b1 (cel [mp m] 44), pt b2 (cel [.int .i64 0, .int .i64 0, .int .i64 0, .int .i64 0, .int .u8 0, .int .u8 0, .int .u8 0, .int .u8 0, .int .i64 0, .int .i64 s.now, .int .i64 s.placed, .int .i64 s.broken, .int .i64 s.grown, .int .i64 s.burnt] 55), Mb m r s]) := by
 refine Pcalls (n := 12) Tryz.func27 rfl rfl rfl fun W0 H0 => ?_
 refine SP.any (m := 12) Tryz.fol rfl ?_
 refine XA.two (i := 0) (j := 4) rfl rfl (by kernel_rfl) rfl rfl ?_ ?_
 ·refine XL.l ?_
  refine XL.on ?_
  refine XA.takeN (i := 1) rfl rfl (by kernel_rfl) (by kernel_rfl) (by kernel_rfl) rfl ?_
  refine XA.tk (i := 2) rfl rfl rfl (fun _ _ _ => XL.fieldAddr (by rfl) (by rfl)) ?_
  refine XA.two (i := 3) (j := 4) rfl rfl (by kernel_rfl) rfl rfl ?_ ?_
  ·refine XL.l ?_
   refine XL.on ?_
   refine XA.tk (i := 8) rfl rfl rfl (fun _ _ _ => XL.fieldAddr (by rfl) (by rfl)) ?_
   refine XA.two (i := 4) (j := 9) rfl rfl (by kernel_rfl) rfl rfl ?_ ?_
   ·refine XL.l ?_
    refine XL.on ?_
    refine XA.takeN (i := 5) rfl rfl (by kernel_rfl) (by kernel_rfl) (by kernel_rfl) rfl ?_
    refine XA.tk (i := 6) rfl rfl rfl (fun _ _ _ => XL.fieldAddr (by rfl) (by rfl)) ?_
    refine XA.two (i := 7) (j := 9) rfl rfl (by kernel_rfl) rfl rfl ?_ ?_
    ·refine XL.lA ?_
     refine XL.on ?_
     refine XA.o 9 ?_
     refine XL.store (by rfl) (by rfl) (by rfl) ?_
     refine XL.on ?_
     refine XA.tk (i := 10) rfl rfl rfl (fun _ _ _ => XL.fieldAddr (by rfl) (by rfl)) ?_
     refine XA.o 11 ?_
     refine XL.sA ?_
     refine XL.on ?_
     refine XA.done (by kernel_rfl) ?_
     exact Jp.end0 (.inl rfl) rfl ⟨rfl, rfl⟩
    ·refine XL.store (by rfl) (by rfl) (by rfl) ?_
     refine XL.on ?_
     refine XA.o 7 ?_
     refine XL.lA ?_
     refine XL.on ?_
     refine XA.tk (i := 10) rfl rfl rfl (fun _ _ _ => XL.fieldAddr (by rfl) (by rfl)) ?_
     refine XA.o 11 ?_
     refine XL.sA ?_
     refine XL.on ?_
     refine XA.done (by kernel_rfl) ?_
     exact Jp.end0 (.inl rfl) rfl ⟨rfl, rfl⟩
   ·refine XL.store (by rfl) (by rfl) (by rfl) ?_
    refine XL.on ?_
    refine XA.o 4 ?_
    refine XL.l ?_
    refine XL.on ?_
    refine XA.takeN (i := 5) rfl rfl (by kernel_rfl) (by kernel_rfl) (by kernel_rfl) rfl ?_
    refine XA.tk (i := 6) rfl rfl rfl (fun _ _ _ => XL.fieldAddr (by rfl) (by rfl)) ?_
    refine XA.o 7 ?_
    refine XL.lA ?_
    refine XL.on ?_
    refine XA.tk (i := 10) rfl rfl rfl (fun _ _ _ => XL.fieldAddr (by rfl) (by rfl)) ?_
    refine XA.o 11 ?_
    refine XL.sA ?_
    refine XL.on ?_
    refine XA.done (by kernel_rfl) ?_
    exact Jp.end0 (.inl rfl) rfl ⟨rfl, rfl⟩
  ·refine XL.l ?_
   refine XL.on ?_
   refine XA.takeN (i := 5) rfl rfl (by kernel_rfl) (by kernel_rfl) (by kernel_rfl) rfl ?_
   refine XA.tk (i := 6) rfl rfl rfl (fun _ _ _ => XL.fieldAddr (by rfl) (by rfl)) ?_
   refine XA.two (i := 3) (j := 7) rfl rfl (by kernel_rfl) rfl rfl ?_ ?_
   ·refine XL.l ?_
    refine XL.on ?_
    refine XA.tk (i := 8) rfl rfl rfl (fun _ _ _ => XL.fieldAddr (by rfl) (by rfl)) ?_
    refine XA.two (i := 7) (j := 9) rfl rfl (by kernel_rfl) rfl rfl ?_ ?_
    ·refine XL.lA ?_
     refine XL.on ?_
     refine XA.o 9 ?_
     refine XL.store (by rfl) (by rfl) (by rfl) ?_
     refine XL.on ?_
     refine XA.tk (i := 10) rfl rfl rfl (fun _ _ _ => XL.fieldAddr (by rfl) (by rfl)) ?_
     refine XA.o 11 ?_
     refine XL.sA ?_
     refine XL.on ?_
     refine XA.done (by kernel_rfl) ?_
     exact Jp.end0 (.inl rfl) rfl ⟨rfl, rfl⟩
    ·refine XL.store (by rfl) (by rfl) (by rfl) ?_
     refine XL.on ?_
     refine XA.o 7 ?_
     refine XL.lA ?_
     refine XL.on ?_
     refine XA.tk (i := 10) rfl rfl rfl (fun _ _ _ => XL.fieldAddr (by rfl) (by rfl)) ?_
     refine XA.o 11 ?_
     refine XL.sA ?_
     refine XL.on ?_
     refine XA.done (by kernel_rfl) ?_
     exact Jp.end0 (.inl rfl) rfl ⟨rfl, rfl⟩
   ·refine XL.lA ?_
    refine XL.on ?_
    refine XA.o 3 ?_
    refine XL.l ?_
    refine XL.on ?_
    refine XA.tk (i := 8) rfl rfl rfl (fun _ _ _ => XL.fieldAddr (by rfl) (by rfl)) ?_
    refine XA.o 9 ?_
    refine XL.store (by rfl) (by rfl) (by rfl) ?_
    refine XL.on ?_
    refine XA.tk (i := 10) rfl rfl rfl (fun _ _ _ => XL.fieldAddr (by rfl) (by rfl)) ?_
    refine XA.o 11 ?_
    refine XL.sA ?_
    refine XL.on ?_
    refine XA.done (by kernel_rfl) ?_
    exact Jp.end0 (.inl rfl) rfl ⟨rfl, rfl⟩
 ·refine XL.l ?_
  refine XL.on ?_
  refine XA.takeN (i := 5) rfl rfl (by kernel_rfl) (by kernel_rfl) (by kernel_rfl) rfl ?_
  refine XA.tk (i := 6) rfl rfl rfl (fun _ _ _ => XL.fieldAddr (by rfl) (by rfl)) ?_
  refine XA.two (i := 0) (j := 7) rfl rfl (by kernel_rfl) rfl rfl ?_ ?_
  ·refine XL.l ?_
   refine XL.on ?_
   refine XA.takeN (i := 1) rfl rfl (by kernel_rfl) (by kernel_rfl) (by kernel_rfl) rfl ?_
   refine XA.tk (i := 2) rfl rfl rfl (fun _ _ _ => XL.fieldAddr (by rfl) (by rfl)) ?_
   refine XA.two (i := 3) (j := 7) rfl rfl (by kernel_rfl) rfl rfl ?_ ?_
   ·refine XL.l ?_
    refine XL.on ?_
    refine XA.tk (i := 8) rfl rfl rfl (fun _ _ _ => XL.fieldAddr (by rfl) (by rfl)) ?_
    refine XA.two (i := 7) (j := 9) rfl rfl (by kernel_rfl) rfl rfl ?_ ?_
    ·refine XL.lA ?_
     refine XL.on ?_
     refine XA.o 9 ?_
     refine XL.store (by rfl) (by rfl) (by rfl) ?_
     refine XL.on ?_
     refine XA.tk (i := 10) rfl rfl rfl (fun _ _ _ => XL.fieldAddr (by rfl) (by rfl)) ?_
     refine XA.o 11 ?_
     refine XL.sA ?_
     refine XL.on ?_
     refine XA.done (by kernel_rfl) ?_
     exact Jp.end0 (.inl rfl) rfl ⟨rfl, rfl⟩
    ·refine XL.store (by rfl) (by rfl) (by rfl) ?_
     refine XL.on ?_
     refine XA.o 7 ?_
     refine XL.lA ?_
     refine XL.on ?_
     refine XA.tk (i := 10) rfl rfl rfl (fun _ _ _ => XL.fieldAddr (by rfl) (by rfl)) ?_
     refine XA.o 11 ?_
     refine XL.sA ?_
     refine XL.on ?_
     refine XA.done (by kernel_rfl) ?_
     exact Jp.end0 (.inl rfl) rfl ⟨rfl, rfl⟩
   ·refine XL.lA ?_
    refine XL.on ?_
    refine XA.o 3 ?_
    refine XL.l ?_
    refine XL.on ?_
    refine XA.tk (i := 8) rfl rfl rfl (fun _ _ _ => XL.fieldAddr (by rfl) (by rfl)) ?_
    refine XA.o 9 ?_
    refine XL.store (by rfl) (by rfl) (by rfl) ?_
    refine XL.on ?_
    refine XA.tk (i := 10) rfl rfl rfl (fun _ _ _ => XL.fieldAddr (by rfl) (by rfl)) ?_
    refine XA.o 11 ?_
    refine XL.sA ?_
    refine XL.on ?_
    refine XA.done (by kernel_rfl) ?_
    exact Jp.end0 (.inl rfl) rfl ⟨rfl, rfl⟩
  ·refine XL.lA ?_
   refine XL.on ?_
   refine XA.o 0 ?_
   refine XL.l ?_
   refine XL.on ?_
   refine XA.takeN (i := 1) rfl rfl (by kernel_rfl) (by kernel_rfl) (by kernel_rfl) rfl ?_
   refine XA.tk (i := 2) rfl rfl rfl (fun _ _ _ => XL.fieldAddr (by rfl) (by rfl)) ?_
   refine XA.o 3 ?_
   refine XL.l ?_
   refine XL.on ?_
   refine XA.tk (i := 8) rfl rfl rfl (fun _ _ _ => XL.fieldAddr (by rfl) (by rfl)) ?_
   refine XA.o 9 ?_
   refine XL.store (by rfl) (by rfl) (by rfl) ?_
   refine XL.on ?_
   refine XA.tk (i := 10) rfl rfl rfl (fun _ _ _ => XL.fieldAddr (by rfl) (by rfl)) ?_
   refine XA.o 11 ?_
   refine XL.sA ?_
   refine XL.on ?_
   refine XA.done (by kernel_rfl) ?_
   exact Jp.end0 (.inl rfl) rfl ⟨rfl, rfl⟩
theorem c13 (m r : Nat) (s : St) (g : Fld) (hF : FillC) (hs : StOk s) (o : OpR) (hc : C2.rng o.c) : Tri Tryz.prog 13 [.iface 24 (mp m), mp m, .agg o.cs.toArray] [Mb m r s, FieldR r g] (fun v Γ' => ∃ (s' : St) (g' : Fld) (an : List Value), v = .agg an.toArray ∧ DoOk o s g s' g' an ∧ Γ' = [Mb m r s', FieldR r g']) := by
 refine Pcalls (n := 114) Tryz.func13 rfl rfl rfl fun W0 H0 => ?_
 refine SP.r2 ?_
 refine XL.box rfl rfl rfl (fun b1 => ?_)
 refine XL.boxA rfl rfl (fun b2 => ?_)
 refine XL.alloc (by rfl) (fun b3 => ?_)
 refine XL.n5 ?_
 refine SP.r2 ?_
 refine XL.m ?_
 refine XL.innil_eql rfl Tryz.underlying82 rfl ?_
 refine XL.m ?_
 refine XL.g ?_
 refine XL.l ?_
 refine XL.g ?_
 refine XL.pnnil_eql rfl rfl ?_
 refine XL.pick_f rfl rfl rfl ?_
 refine XL.n2 ?_
 refine SP.f ?_
 refine SP.skip ?_
 refine Jp.n4 ?_
 refine XL.makeFunc (l1 := []) (l2 := [.tmp 4, .tmp 6]) rfl rfl rfl ?_
 refine XL.a ?_
 refine XL.n5 ?_
 refine SP.r2 ?_
 refine XL.f ?_
 refine XL.l ?_
 refine XL.n2 ?_
 refine SP.block ?_
 refine SP.r2 ?_
 refine XL.eql_s rfl rfl rfl (fun k1 => ?_) (fun k1 => ?_)
 ·refine XL.a ?_
  refine XL.n2 ?_
  refine SP.t ?_
  refine SP.region ?_
  refine XL.m ?_
  refine XL.l ?_
  refine XL.f ?_
  refine XL.lA ?_
  refine XL.f ?_
  refine XL.lA ?_
  refine XL.cw rfl (c28 m r s g hs o.p o.c hc) (by repeat' constructor) rfl ?_
  rintro _ _ ⟨s1, g1, e, rfl, hk, hset, rfl⟩
  refine XL.app2 ?_
  refine XL.f ?_
  refine XL.store (by rfl) (by rfl) (by rfl) ?_
  refine XL.nil ?_
  refine Jp.block_normal ?_
  refine Jp.n4 ?_
  refine XL.lA ?_
  refine XL.sA ?_
  refine XL.n2 ?_
  refine SP.ret ?_
  exact Jp.endcG (.inr rfl) rfl (Res.cellA (by rfl)) (Pk.drop (Γ1 := [Mb m r s1, FieldR r g1]) (by repeat' constructor)) ⟨s1, g1, _, rfl, ⟨hk, fun _ a b c d => ⟨by rw [(hset a b c d).1]; rfl, (hset a b c d).2⟩, fun h => by omega, rfl, rfl⟩, rfl⟩
 ·refine XL.a ?_
  refine XL.n2 ?_
  refine SP.f ?_
  refine SP.r2 ?_
  refine XL.eql_s rfl rfl rfl (fun k2 => ?_) (fun k2 => ?_)
  ·refine XL.a ?_
   refine XL.n2 ?_
   refine SP.t ?_
   refine SP.region ?_
   refine XL.m ?_
   refine XL.l ?_
   refine XL.f ?_
   refine XL.lA ?_
   refine XL.f ?_
   refine XL.lA ?_
   refine XL.f ?_
   refine XL.lA ?_
   refine XL.cw rfl (hF m r s g hs o.p o.q o.c hc) (by repeat' constructor) rfl ?_
   rintro _ _ ⟨s1, g1, e, rfl, hk, rfl⟩
   refine XL.app2 ?_
   refine XL.f ?_
   refine XL.store (by rfl) (by rfl) (by rfl) ?_
   refine XL.nil ?_
   refine Jp.block_normal ?_
   refine Jp.n4 ?_
   refine XL.lA ?_
   refine XL.sA ?_
   refine XL.n2 ?_
   refine SP.ret ?_
   exact Jp.endcG (.inr rfl) rfl (Res.cellA (by rfl)) (Pk.drop (Γ1 := [Mb m r s1, FieldR r g1]) (by repeat' constructor)) ⟨s1, g1, _, rfl, DoOk.plain hk (by omega) (by omega) rfl rfl, rfl⟩
  ·refine XL.a ?_
   refine XL.n2 ?_
   refine SP.f ?_
   refine SP.r2 ?_
   refine XL.eql_s rfl rfl rfl (fun k3 => ?_) (fun k3 => ?_)
   ·refine XL.a ?_
    refine XL.n2 ?_
    refine SP.t ?_
    refine SP.region ?_
    refine XL.m ?_
    refine XL.l ?_
    refine XL.f ?_
    refine XL.lA ?_
    refine XL.f ?_
    refine XL.l ?_
    refine XL.cw rfl (c30 m r s g hs o.p o.n) (by repeat' constructor) rfl ?_
    rintro _ _ ⟨g1, e, rfl, hD, rfl⟩
    refine XL.app2 ?_
    refine XL.f ?_
    refine XL.store (by rfl) (by rfl) (by rfl) ?_
    refine XL.nil ?_
    refine Jp.block_normal ?_
    refine Jp.n4 ?_
    refine XL.lA ?_
    refine XL.sA ?_
    refine XL.n2 ?_
    refine SP.ret ?_
    exact Jp.endcG (.inr rfl) rfl (Res.cellA (by rfl)) (Pk.drop (Γ1 := [Mb m r s, FieldR r g1]) (by repeat' constructor)) ⟨s, g1, _, rfl, DoOk.plain (Kp.ofD hD) (by omega) (by omega) rfl rfl, rfl⟩
   ·refine XL.a ?_
    refine XL.n2 ?_
    refine SP.f ?_
    refine SP.r2 ?_
    refine XL.eql_s rfl rfl rfl (fun k4 => ?_) (fun k4 => ?_)
    ·refine XL.a ?_
     refine XL.n2 ?_
     refine SP.t ?_
     refine SP.region ?_
     refine XL.l ?_
     refine XL.f ?_
     refine XL.l ?_
     refine XL.f ?_
     refine XL.lA ?_
     refine XL.cw rfl (c31 m r s g o.n o.p) (by repeat' constructor) rfl ?_
     rintro _ _ ⟨s1, e, hL, rfl, rfl⟩
     refine XL.app2 ?_
     refine XL.f ?_
     refine XL.store (by rfl) (by rfl) (by rfl) ?_
     refine XL.nil ?_
     refine Jp.block_normal ?_
     refine Jp.n4 ?_
     refine XL.lA ?_
     refine XL.sA ?_
     refine XL.n2 ?_
     refine SP.ret ?_
     exact Jp.endcG (.inr rfl) rfl (Res.cellA (by rfl)) (Pk.drop (Γ1 := [Mb m r s1, FieldR r g]) (by repeat' constructor)) ⟨s1, g, _, rfl, DoOk.plain ⟨hL.ok, hL.led g⟩ (by omega) (by omega) rfl rfl, rfl⟩
    ·refine XL.a ?_
     refine XL.n2 ?_
     refine SP.f ?_
     refine SP.r2 ?_
     refine XL.eql_s rfl rfl rfl (fun k5 => ?_) (fun k5 => ?_)
     ·refine XL.a ?_
      refine XL.n2 ?_
      refine SP.t ?_
      refine SP.region ?_
      refine XL.l ?_
      refine XL.f ?_
      refine XL.l ?_
      refine XL.cw rfl (c32 m r s g o.n) (by repeat' constructor) rfl ?_
      rintro _ _ ⟨s1, e, hL, rfl, rfl⟩
      refine XL.app2 ?_
      refine XL.f ?_
      refine XL.store (by rfl) (by rfl) (by rfl) ?_
      refine XL.nil ?_
      refine Jp.block_normal ?_
      refine Jp.n4 ?_
      refine XL.lA ?_
      refine XL.sA ?_
      refine XL.n2 ?_
      refine SP.ret ?_
      exact Jp.endcG (.inr rfl) rfl (Res.cellA (by rfl)) (Pk.drop (Γ1 := [Mb m r s1, FieldR r g]) (by repeat' constructor)) ⟨s1, g, _, rfl, DoOk.plain ⟨hL.ok, hL.led g⟩ (by omega) (by omega) rfl rfl, rfl⟩
     ·refine XL.a ?_
      refine XL.n2 ?_
      refine SP.f ?_
      refine SP.r2 ?_
      refine XL.eql_s rfl rfl rfl (fun k6 => ?_) (fun k6 => ?_)
      ·refine XL.a ?_
       refine XL.n2 ?_
       refine SP.t ?_
       refine SP.region ?_
       refine XL.m ?_
       refine XL.l ?_
       refine XL.f ?_
       refine XL.l ?_
       refine XL.cw rfl (c33 m r s g hs o.n) (by repeat' constructor) rfl ?_
       rintro _ _ ⟨s1, g1, e, rfl, hk, rfl⟩
       refine XL.app2 ?_
       refine XL.f ?_
       refine XL.store (by rfl) (by rfl) (by rfl) ?_
       refine XL.nil ?_
       refine Jp.block_normal ?_
       refine Jp.n4 ?_
       refine XL.lA ?_
       refine XL.sA ?_
       refine XL.n2 ?_
       refine SP.ret ?_
       exact Jp.endcG (.inr rfl) rfl (Res.cellA (by rfl)) (Pk.drop (Γ1 := [Mb m r s1, FieldR r g1]) (by repeat' constructor)) ⟨s1, g1, _, rfl, DoOk.plain hk (by omega) (by omega) rfl rfl, rfl⟩
      ·refine XL.a ?_
       refine XL.n2 ?_
       refine SP.f ?_
       refine SP.r2 ?_
       refine XL.eql_s rfl rfl rfl (fun k7 => ?_) (fun k7 => ?_)
       ·refine XL.a ?_
        refine XL.n2 ?_
        refine SP.t ?_
        refine SP.region ?_
        refine XL.m ?_
        refine XL.f ?_
        refine XL.lA ?_
        by_cases hp : MayQ o.p
        ·refine XL.cw rfl (c34_t m r s g o.p hp) (by repeat' constructor) rfl ?_
         rintro _ _ ⟨rfl, rfl⟩
         refine XL.app2 ?_
         refine XL.m ?_
         refine XL.x ?_
         refine XL.x ?_
         refine XL.x ?_
         refine XL.x ?_
         refine XL.f ?_
         refine XL.sA ?_
         refine XL.f ?_
         refine XL.sA ?_
         refine XL.f ?_
         refine XL.store (by rfl) (by rfl) (by rfl) ?_
         refine XL.f ?_
         refine XL.store (by rfl) (by rfl) (by rfl) ?_
         refine XL.nil ?_
         refine Jp.block_normal ?_
         refine Jp.n4 ?_
         refine XL.lA ?_
         refine XL.sA ?_
         refine XL.n2 ?_
         refine SP.ret ?_
         exact Jp.endcG (.inr rfl) rfl (Res.cellA (by rfl)) (Pk.drop (Γ1 := [Mb m r s, FieldR r g]) (by repeat' constructor)) ⟨s, g, _, rfl, ⟨Kp.refl s g, fun h => by omega, fun _ _ => ⟨rfl, rfl, rfl⟩, rfl, rfl⟩, rfl⟩
        ·refine XL.cw rfl (c34_f m r s g o.p hp) (by repeat' constructor) rfl ?_
         rintro _ _ ⟨rfl, rfl⟩
         refine XL.app2 ?_
         refine XL.m ?_
         refine XL.x ?_
         refine XL.x ?_
         refine XL.x ?_
         refine XL.x ?_
         refine XL.f ?_
         refine XL.sA ?_
         refine XL.f ?_
         refine XL.sA ?_
         refine XL.f ?_
         refine XL.store (by rfl) (by rfl) (by rfl) ?_
         refine XL.f ?_
         refine XL.store (by rfl) (by rfl) (by rfl) ?_
         refine XL.nil ?_
         refine Jp.block_normal ?_
         refine Jp.n4 ?_
         refine XL.lA ?_
         refine XL.sA ?_
         refine XL.n2 ?_
         refine SP.ret ?_
         exact Jp.endcG (.inr rfl) rfl (Res.cellA (by rfl)) (Pk.drop (Γ1 := [Mb m r s, FieldR r g]) (by repeat' constructor)) ⟨s, g, _, rfl, ⟨Kp.refl s g, fun h => by omega, fun _ h => absurd h hp, rfl, rfl⟩, rfl⟩
       ·refine XL.a ?_
        refine XL.n2 ?_
        refine SP.f ?_
        refine SP.r2 ?_
        refine XL.eql_s rfl rfl rfl (fun k8 => ?_) (fun k8 => ?_)
        ·refine XL.a ?_
         refine XL.n2 ?_
         refine SP.t ?_
         refine SP.region ?_
         refine XL.m ?_
         refine XL.f ?_
         refine XL.lA ?_
         refine XL.f ?_
         refine XL.lA ?_
         refine XL.f ?_
         refine XL.l ?_
         refine XL.cw rfl (c35 m r s g o.p o.q o.n) (by repeat' constructor) rfl ?_
         rintro _ _ ⟨q, c, k, e, rfl, rfl⟩
         refine XL.app2 ?_
         refine XL.m ?_
         refine XL.x ?_
         refine XL.x ?_
         refine XL.x ?_
         refine XL.x ?_
         refine XL.f ?_
         refine XL.sA ?_
         refine XL.f ?_
         refine XL.sA ?_
         refine XL.f ?_
         refine XL.store (by rfl) (by rfl) (by rfl) ?_
         refine XL.f ?_
         refine XL.store (by rfl) (by rfl) (by rfl) ?_
         refine XL.nil ?_
         refine Jp.block_normal ?_
         refine Jp.n4 ?_
         refine XL.lA ?_
         refine XL.sA ?_
         refine XL.n2 ?_
         refine SP.ret ?_
         exact Jp.endcG (.inr rfl) rfl (Res.cellA (by rfl)) (Pk.drop (Γ1 := [Mb m r s, FieldR r g]) (by repeat' constructor)) ⟨s, g, _, rfl, DoOk.plain (Kp.refl s g) (by omega) (by omega) rfl rfl, rfl⟩
        ·refine XL.a ?_
         refine XL.n2 ?_
         refine SP.f ?_
         refine SP.r2 ?_
         refine XL.eql_s rfl rfl rfl (fun k10 => ?_) (fun k10 => ?_)
         ·refine XL.a ?_
          refine XL.n2 ?_
          refine SP.t ?_
          refine SP.region ?_
          refine XL.m ?_
          refine XL.vw (v1 := []) (v2 := [.pointer (some ⟨b1, 0, none⟩), .pointer (some ⟨b3, 0, none⟩)]) rfl rfl (c27 b1 b3 m r s) (by repeat' constructor) rfl ?_
          rintro _ _ ⟨rfl, rfl⟩
          refine XL.app3 ?_
          refine XL.nil ?_
          refine Jp.block_normal ?_
          refine Jp.n4 ?_
          refine XL.lA ?_
          refine XL.sA ?_
          refine XL.n2 ?_
          refine SP.ret ?_
          exact Jp.endcG (.inr rfl) rfl (Res.cellA (by rfl)) (Pk.drop (Γ1 := [Mb m r s, FieldR r g]) (by repeat' constructor)) ⟨s, g, _, rfl, DoOk.plain (Kp.refl s g) (by omega) (by omega) rfl rfl, rfl⟩
         ·refine XL.a ?_
          refine XL.n2 ?_
          refine SP.f ?_
          refine SP.region ?_
          refine XL.f ?_
          refine XL.store (by rfl) (by rfl) (by rfl) ?_
          refine XL.nil ?_
          refine Jp.block_normal ?_
          refine Jp.n4 ?_
          refine XL.lA ?_
          refine XL.sA ?_
          refine XL.n2 ?_
          refine SP.ret ?_
          exact Jp.endcG (.inr rfl) rfl (Res.cellA (by rfl)) (Pk.drop (Γ1 := [Mb m r s, FieldR r g]) (by repeat' constructor)) ⟨s, g, _, rfl, DoOk.plain (Kp.refl s g) (by omega) (by omega) rfl rfl, rfl⟩
end Go.Proofs

namespace Go.Proofs
open Go.Bk
def EN (L : List Ent) : Asn := star (L.map entA)
theorem en_open {L A B : List Ent} {k : Pl} {b : Nat} {c : Ch} {Γ Γ2 : List Asn} (e : L = A ++ (k, b, c) :: B) (r : Rm (EN L) Γ Γ2) : ∀ h, star Γ h → star (pt b (cel c.cs 80) :: TkS c.tv c.ticks :: EN (A ++ B) :: Γ2) h := fun h s => by
 have s1 := r.to h s
 subst e
 have s2 : star (star [pt b (cel c.cs 80), TkS c.tv c.ticks, EN (A ++ B)] :: Γ2) h := star_head (fun k' hk => by
  have s3 := star_perm (Γ' := entA (k, b, c) :: (A ++ B).map entA) (by rw [List.map_append, List.map_cons, List.map_append]; exact List.perm_middle) k' hk
  exact star_bundle (Γ := [pt b (cel c.cs 80), TkS c.tv c.ticks]) k' ((star_flat (Γ := [pt b (cel c.cs 80), TkS c.tv c.ticks]) k').1 s3)) s1
 exact (star_flat h).1 s2
theorem en_close {L A B : List Ent} {k : Pl} {b : Nat} {c : Ch} {Γ Γ2 : List Asn} (e : L = A ++ (k, b, c) :: B) (p : Pk [pt b (cel c.cs 80), TkS c.tv c.ticks, EN (A ++ B)] Γ Γ2) : ∀ h, star Γ h → star (EN L :: Γ2) h := fun h s => by
 subst e
 have s1 := (star_flat h).2 (p.to h s)
 refine star_head (fun k' hk => ?_) s1
 have s2 := star_unbundle (Γ := [pt b (cel c.cs 80), TkS c.tv c.ticks]) k' hk
 have s3 := (star_flat (Γ := [pt b (cel c.cs 80), TkS c.tv c.ticks]) k').2 s2
 exact star_perm (Γ := entA (k, b, c) :: (A ++ B).map entA) (by rw [List.map_append, List.map_append, List.map_cons]; exact List.perm_middle.symm) k' s3
def chDo (k : Pl) (c : Option Ch) : Int := match c with
 | some c => chD k c
 | none => 0
def sumL (L : List Ent) (l : List Pl) : Int := (l.map fun k => chDo k (getM (keyed L) k)).sum
theorem sumL_snoc (L : List Ent) (l : List Pl) (k : Pl) : sumL L (l ++ [k]) = sumL L l + chDo k (getM (keyed L) k) := by simp [sumL]
theorem sumL_perm (L : List Ent) {l l' : List Pl} (h : l'.Perm l) : sumL L l' = sumL L l := by
 unfold sumL
 induction h with
 | nil => rfl
 | cons x _ ih => simp [ih]
 | swap x y l => simp; omega
 | trans _ _ h1 h2 => exact h1.trans h2
theorem getM_of_mem {L : List Ent} (h : LOk L) {k : Pl} {b : Nat} {c : Ch} (hm : (k, b, c) ∈ L) : getM (keyed L) k = some c := by
 have hn := h.nd
 clear h
 induction L with
 | nil => simp at hm
 | cons e L ih =>
  obtain ⟨a, b', u⟩ := e
  simp only [List.map_cons, List.nodup_cons] at hn
  simp only [keyed, List.map_cons, getM]
  rcases List.mem_cons.1 hm with e | he
  ·cases e; rw [if_pos rfl]
  ·rw [if_neg (fun e => hn.1 (by rw [← e]; exact List.mem_map.2 ⟨_, he, rfl⟩))]
   exact ih he hn.2
theorem mapOf_split {R : List Ent} {a c : List (Pl × Nat)} {k : Pl} {x : Nat} (h : mapOf R = a ++ (k, x) :: c) : ∃ A B u, R = A ++ (k, x, u) :: B ∧ a = mapOf A ∧ c = mapOf B := by
 unfold mapOf at *
 obtain ⟨A, R2, rfl, rfl, h2⟩ := List.map_eq_append_iff.1 h
 obtain ⟨e, B, rfl, h3, rfl⟩ := List.map_eq_cons_iff.1 h2
 obtain ⟨k', x', u⟩ := e
 cases h3
 exact ⟨A, B, u, rfl, rfl, rfl⟩
theorem DL_mid (A B : List Ent) (k : Pl) (b : Nat) (c : Ch) : DL (A ++ (k, b, c) :: B) = DL (A ++ B) + chD k c := by rw [DL_app, DL_app]; simp only [DL]; omega
theorem nodup_lt (N : Nat) : ∀ l : List Nat, l.Nodup → (∀ x ∈ l, x < N) → l.length ≤ N := by
 induction N with
 | zero => intro l _ h; cases l with
  | nil => simp
  | cons x l => exact absurd (h x (by simp)) (Nat.not_lt_zero _)
 | succ N ih =>
  intro l hn h
  have h1 := ih (l.erase N) (hn.erase N) (fun x hx => by
   have h2 := (hn.mem_erase_iff).1 hx
   have := h x h2.2; have := h2.1; omega)
  have h3 : l.length ≤ (l.erase N).length + 1 := by rw [List.length_erase]; split <;> omega
  omega
def spN (p : Pl) : Nat := (((p.x + 65536) * 131072 + (p.z + 65536)) * 4 + p.y).toNat
theorem LOk.len {L : List Ent} (h : LOk L) : L.length ≤ 68719476736 := by
 have h1 := nodup_lt 68719476736 (L.map fun e => spN e.1) (by
  have hn := h.nd
  unfold List.Nodup at *
  rw [List.pairwise_map] at *
  refine hn.imp_of_mem fun {a b} ha hb hab => ?_
  have m1 := (h.all a ha).may; have m2 := (h.all b hb).may
  unfold MayS at m1 m2
  unfold spN
  intro e
  apply hab
  have : a.1.x = b.1.x ∧ a.1.y = b.1.y ∧ a.1.z = b.1.z := by omega
  rcases hab1 : a.1 with ⟨x, y, z⟩
  rcases hab2 : b.1 with ⟨x', y', z'⟩
  rw [hab1, hab2] at this
  simp only [Pl.mk.injEq]; exact this) (fun x hx => by
  obtain ⟨e, he, rfl⟩ := List.mem_map.1 hx
  have m := (h.all e he).may
  unfold MayS at m
  unfold spN; omega)
 simpa using h1
theorem c21' (v : Value) (l : List Pl) (hn : l.length < 4611686018427387904) : Tri Tryz.prog 21 [v, .func (.func 22) #[] #[]] [SpS v l] fun r Γ' => r = .tuple #[] ∧ ∃ l' : List Pl, l'.Perm l ∧ Γ' = [SpS v l'] := by
 have := Go.Bk.sort_perm (he := (inferInstance : Ag Tryz.prog 34 3)) (E := 34) Tryz.sortSp (enc := Pl.cs) Pl.len (fun x v hv => by simp [Pl.cs] at hv; rcases hv with rfl | rfl | rfl <;> rfl) cmpP swo_cmpP (g := 22) (fun x y => c22 x y) v l hn
 exact this
structure SpW where
 v : Value
 out : List Pl
 rest : List Ent
structure SpI (L : List Ent) (w : SpW) : Prop where
 mem : ∀ e ∈ w.rest, e ∈ L
 sum : sumL L w.out + DL w.rest = DL L
 len : w.out.length + w.rest.length ≤ L.length
 may : ∀ x ∈ w.out, MayS x.x x.y x.z
theorem SpI.skip {L A B : List Ent} {v : Value} {out : List Pl} {k : Pl} {b : Nat} {c : Ch} (h : SpI L ⟨v, out, A ++ (k, b, c) :: B⟩) (hz : chD k c = 0) : SpI L ⟨v, out, A ++ B⟩ := by
 have h1 := h.sum; have h2 := h.len
 refine ⟨fun e he => h.mem e (by rcases List.mem_append.1 he with g | g <;> simp [g]), ?_, ?_, h.may⟩
 ·show sumL L out + DL (A ++ B) = DL L
  have h1 : sumL L out + DL (A ++ (k, b, c) :: B) = DL L := h1
  rw [DL_mid] at h1; omega
 ·show out.length + (A ++ B).length ≤ L.length
  have h2 : out.length + (A ++ (k, b, c) :: B).length ≤ L.length := h2
  simp at *; omega
theorem SpI.add {L A B : List Ent} {v v' : Value} {out : List Pl} {k : Pl} {b : Nat} {c : Ch} (hL : LOk L) (h : SpI L ⟨v, out, A ++ (k, b, c) :: B⟩) : SpI L ⟨v', out ++ [k], A ++ B⟩ := by
 have h1 := h.sum; have h2 := h.len
 have hm : (k, b, c) ∈ L := h.mem _ (by simp)
 refine ⟨fun e he => h.mem e (by rcases List.mem_append.1 he with g | g <;> simp [g]), ?_, ?_, fun x hx => (List.mem_append.1 hx).elim (h.may x) fun e => by rw [show x = k by simpa using e]; exact (hL.all _ hm).may⟩
 ·show sumL L (out ++ [k]) + DL (A ++ B) = DL L
  have h1 : sumL L out + DL (A ++ (k, b, c) :: B) = DL L := h1
  rw [DL_mid] at h1; rw [sumL_snoc, getM_of_mem hL hm]; show sumL L out + chD k c + _ = _; omega
 ·show (out ++ [k]).length + (A ++ B).length ≤ L.length
  have h2 : out.length + (A ++ (k, b, c) :: B).length ≤ L.length := h2
  simp at *; omega
theorem chD_is {k : Pl} {c : Ch} (h : c.cells = (landCh k.y).cells) : chD k c = 0 := by unfold chD; rw [h]; omega
theorem c7 (m r : Nat) (s : St) (L : List Ent) (hL : LOk L) : Tri Tryz.prog 7 [mp m] [Mb m r s, MpC r (mapOf L), EN L] (fun v Γ' => ∃ o : List Pl, sumL L o = DL L ∧ (∀ x ∈ o, MayS x.x x.y x.z) ∧ o.length ≤ 68719476736 ∧ Γ' = [SpS v o, Mb m r s, MpC r (mapOf L), EN L]) := by
 refine Pcalls (n := 28) Tryz.func7 rfl rfl rfl fun W0 H0 => ?_
 have hLl := hL.len
 refine SP.r2 ?_
 refine XL.a ?_
 refine XL.n5 ?_
 refine SP.r2 ?_
 refine XL.m ?_
 refine XL.pnnil_eql rfl rfl ?_
 refine XL.n2 ?_
 refine SP.f ?_
 refine SP.skip ?_
 refine Jp.then_normal ?_
 refine SP.seq ?_
 refine SP.r2 ?_
 refine XL.m ?_
 refine XL.nilCheck rfl rfl ?_
 refine XL.f ?_
 refine XL.l ?_
 refine XL.range (ek := Pl.v) (ev' := pv) (l := mapOf L) rfl (by repeat' constructor) rfl (fun bi => ?_)
 refine XL.n2 ?_
 refine SP.block ?_
 refine SP.gam (star_nilS (E := 34) (k := 3)) ?_
 refine SP.loop (X := SpW) (fun w => [(11, .pointer (some ⟨bi, 0, none⟩)), (2, w.v)]) (fun w => [MpIt Pl.v pv bi r (mapOf L) (mapOf w.rest) none, SpS w.v w.out, EN L, Mb m r s]) (fun w => SpI L w) (fun w => w.rest.length) ⟨.slice none 0 0, [], L⟩ ⟨fun e he => he, by show sumL L [] + DL L = DL L; simp [sumL], by simp, fun x hx => absurd hx (by simp)⟩ (by repeat' constructor) (Pk.drop (by repeat' constructor)) ?_
 rintro ⟨v, out, rest⟩ hI
 dsimp only at *
 have hIl := hI.len
 dsimp only at hIl
 refine SP.r2 ?_
 refine XL.next (ek := Pl.v) (ev' := pv) (l := mapOf L) (left := mapOf rest) rfl (by repeat' constructor) rfl (fun hlf => ?_) (fun la k x lc hlf => ?_)
 ·obtain rfl : rest = [] := by simpa [mapOf] using hlf
  refine XL.x ?_
  refine XL.n5 ?_
  refine SP.f ?_
  refine SP.exit ?_
  refine Jp.then_exit ?_
  refine Jp.then_exit ?_
  refine Jp.block_here ?_
  refine Jp.n4 ?_
  refine XL.weaken (fun h s => star_head (B := MpR Pl.v pv r (mapOf L)) MpIt.done s) ?_
  refine XL.m ?_
  refine XL.cw rfl (c21' v out (by omega)) (by repeat' constructor) rfl ?_
  rintro _ _ ⟨rfl, o2, ho2, rfl⟩
  refine XL.app1 ?_
  refine XL.n4 ?_
  refine XL.m ?_
  refine XL.a ?_
  refine XL.n2 ?_
  refine SP.ret ?_
  exact Jp.go (Pk.drop (Γ1 := [SpS v o2, Mb m r s, MpC r (mapOf L), EN L]) (by repeat' constructor)) (Jp.end1 (.inr rfl) rfl rfl ⟨o2, (sumL_perm L ho2).trans (by have h1 : sumL L out + DL [] = DL L := hI.sum; simpa [DL] using h1), fun x hx => hI.may x (ho2.mem_iff.1 hx), by rw [ho2.length_eq]; simp at hIl; omega, rfl⟩)
 ·obtain ⟨A, B, c, rfl, rfl, rfl⟩ := mapOf_split hlf
  have hmem : (k, x, c) ∈ L := hI.mem _ (by simp)
  have hE := hL.all _ hmem
  obtain ⟨A2, B2, hAB⟩ := List.append_of_mem hmem
  rw [show mapOf A ++ mapOf B = mapOf (A ++ B) by simp [mapOf]]
  refine XL.x ?_
  refine XL.n5 ?_
  refine SP.t ?_
  refine SP.skip ?_
  refine Jp.then_normal ?_
  refine SP.block ?_
  refine SP.r2 ?_
  refine XL.entry (k := k) (v := x) (ek := Pl.v) (ev' := pv) rfl (by repeat' constructor) rfl ?_
  refine XL.x ?_
  refine XL.x ?_
  refine XL.alloc (by rfl) (fun b3 => ?_)
  refine XL.sA ?_
  refine XL.a ?_
  refine XL.n4 ?_
  refine XL.m ?_
  refine XL.lA ?_
  refine XL.weaken (en_open hAB (by repeat' constructor)) ?_
  refine XL.crs rfl (c20 x c hE.ok k.x k.y k.z hE.may) (by repeat' constructor) rfl (fun hz => ?_) (fun hz => ?_)
  ·refine XL.weaken (en_close hAB (by repeat' constructor)) ?_
   refine XL.not_t rfl rfl ?_
   refine XL.n2 ?_
   refine SP.f ?_
   refine SP.skip ?_
   refine Jp.block_normal ?_
   refine Jp.gam (Rm.conv (A := MpIt Pl.v pv bi r (mapOf L) (mapOf (A ++ B)) (some (k, x))) (by repeat' constructor) MpIt.cur) ?_
   refine Jp.rd ⟨v, out, A ++ B⟩ (hI.skip (chD_is hz.1)) (by show (A ++ B).length < (A ++ (k, x, c) :: B).length; simp)
  ·refine XL.weaken (en_close hAB (by repeat' constructor)) ?_
   refine XL.not_f rfl rfl ?_
   refine XL.n2 ?_
   refine SP.t ?_
   refine SP.region ?_
   refine XL.m ?_
   refine XL.lA ?_
   refine XL.buildSlice (by rfl) (by rfl) (by rfl) (by decide) rfl (fun b4 => ?_)
   refine XL.append (k := 3) (z := [.int .i64 0, .int .i64 0, .int .i64 0]) (bt := 24) (xs := out.flatMap Pl.cs) (ys := Pl.cs k) (m := out.length) (m2 := 1) rfl rfl ⟨_, Tryz.underlying28⟩ (by repeat' constructor) rfl rfl rfl (by omega) rfl rfl (fun v2 => ?_)
   rw [SpS_snoc v2 out k]
   refine XL.a ?_
   refine XL.nil ?_
   refine Jp.block_normal ?_
   refine Jp.gam (Rm.conv (A := MpIt Pl.v pv bi r (mapOf L) (mapOf (A ++ B)) (some (k, x))) (by repeat' constructor) MpIt.cur) ?_
   refine Jp.rd ⟨v2, out ++ [k], A ++ B⟩ (hI.add hL) (by show (A ++ B).length < (A ++ (k, x, c) :: B).length; simp)
theorem C_Chunk (m r : Nat) (s : St) (L : List Ent) (hL : LOk L) (p : Pl) (hm : MayS p.x p.y p.z) : Tri Tryz.prog 8 [mp m, plv p] [Mb m r s, MpC r (mapOf L), EN L]
  (fun v Γ' => ∃ b c, v = .tuple #[.pointer (some ⟨b, 0, none⟩), .bool true] ∧ Ch.Ok c ∧ cntM c.cells 4096 - cntM (landCh p.y).cells 4096 = chDo p (getM (keyed L) p) ∧ Γ' = [pt b (cel c.cs 80), Mb m r s, MpC r (mapOf L), EN L]) := by
 cases hc : getM (keyed L) p with
 | none =>
  refine Tri.conseq (Tri.fr (Chunk_none m r s (mapOf L) p (keyed_none hc).1 hm) [EN L]) ?_
  rintro v _ ⟨Γ', ⟨b, rfl, rfl⟩, rfl⟩
  exact ⟨_, ⟨b, landCh p.y, rfl, chA_ok _ _ _, by show _ = (0 : Int); omega, rfl⟩, fun h st => st⟩
 | some c =>
  obtain ⟨A, B, b, hAB, h1, h2⟩ := getM_split hL hc
  have he := hL.all (p, b, c) (by rw [hAB]; simp)
  refine Tri.pre (fun h st => Pk.drop (Γ1 := [Mb m r s, MpC r (mapOf L), pt b (cel c.cs 80), TkS c.tv c.ticks] ++ [EN (A ++ B)]) (by repeat' constructor) h (en_open hAB (Γ := [Mb m r s, MpC r (mapOf L), EN L]) (Γ2 := [Mb m r s, MpC r (mapOf L)]) (by repeat' constructor) h st)) ?_
  refine Tri.conseq (Tri.fr (Chunk_some m r s _ p (by rw [hAB]; exact mapOf_mid A B p b c h1) c he.ok he.tk.len) [EN (A ++ B)]) ?_
  rintro v _ ⟨Γ', ⟨b', tv, rfl, hsv, rfl⟩, rfl⟩
  refine ⟨_, ⟨b', { c with tv := tv }, rfl, Ch.setTv he.ok hsv, rfl, rfl⟩, fun h st => ?_⟩
  have := en_close hAB (Γ2 := [pt b' (cel ({ c with tv := tv } : Ch).cs 80), Mb m r s, MpC r (mapOf L)]) (by repeat' constructor) h st
  exact Pk.drop (Γ1 := [pt b' (cel ({ c with tv := tv } : Ch).cs 80), Mb m r s, MpC r (mapOf L), EN L]) (by repeat' constructor) h this
def fld0 : Fld := ⟨fun p => landAt p.y, fun p => landLit p.y, fun _ => 0, 0⟩
def st0 (seed : Int) : St := ⟨0, seed, ⟨0, 0, 0⟩, false, ⟨0, 0, 0⟩, false, 0, 0, 0, 0⟩
theorem st0_ok (seed : Int) : StOk (st0 seed) := ⟨⟨Int.le_refl _, show (0 : Int) ≤ 1099511627776 by decide⟩, fun h => Bool.noConfusion h, fun h => Bool.noConfusion h⟩
theorem st0_led (seed : Int) : LedOk (st0 seed) fld0 := by unfold LedOk Led st0 fld0; rfl
theorem field0 {m r : Nat} {s : St} : ∀ h, star [Mb m r s, MpC r []] h → star [Mb m r s, FieldR r fld0] h := fun h st =>
 FieldR.close (L := []) ⟨fun e he => absurd he (by simp), List.nodup_nil⟩ ⟨fun _ _ => rfl, fun _ _ => rfl, fun _ _ => rfl, rfl⟩ h (star_bundle (Γ := [Mb m r s, MpC r []]) (Δ := []) h st)
theorem FieldR.ex {r : Nat} {g : Fld} : ∀ h, FieldR r g h → ExA (fun L => LOk L ∧ Abs L g) (fun L => [MpC r (mapOf L), EN L]) h := fun h ⟨L, h1, h2, s⟩ => ⟨L, ⟨h1, h2⟩, star_bundle (Γ := [MpC r (mapOf L)]) (Δ := L.map entA) h s⟩
end Go.Proofs

namespace Go.Proofs
open Go.Bk
def dn (x : Int) : Int := if x.tmod 16 < 0 then x.tdiv 16 - 1 else x.tdiv 16
def dr (x : Int) : Int := if x.tmod 16 < 0 then x.tmod 16 + 16 else x.tmod 16
theorem td_bd {x : Int} (h : -1048576 ≤ x ∧ x ≤ 1048576) : -1048576 ≤ x.tdiv 16 ∧ x.tdiv 16 ≤ 1048576 ∧ -16 < x.tmod 16 ∧ x.tmod 16 < 16 := by
 have h1 := Int.tmod_add_mul_tdiv x 16
 have h2 := Int.tmod_lt_of_pos x (show (0 : Int) < 16 by decide)
 have h3 : -16 < x.tmod 16 := by
  have := Int.tmod_lt_of_pos (-x) (show (0 : Int) < 16 by decide)
  rw [Int.neg_tmod] at this; omega
 omega
theorem tq64 {x : Int} (h : -1048576 ≤ x ∧ x ≤ 1048576) : IntKind.i64.wrap (x.tdiv 16) = x.tdiv 16 := by have := td_bd h; exact wrap64_of (by omega) (by omega)
def rsp (p : Pl) : Pl := if MayQ p then ⟨dn p.x, dn p.y, dn p.z⟩ else ⟨0, 0, 0⟩
theorem c62 (a lo hi : Int) : Pur Tryz.prog 62 [.int .i64 a, .int .i64 lo, .int .i64 hi] (.bool (decide (lo ≤ a ∧ a < hi))) := by
 refine Pcalls (n := 15) Tryz.func62 rfl rfl rfl fun W0 H0 => ?_
 refine SP.r2 ?_
 refine XL.a ?_
 refine XL.n4 ?_
 refine XL.m ?_
 refine XL.m ?_
 refine XL.geq_s rfl rfl rfl (fun h1 => ?_) (fun h1 => ?_)
 ·refine XL.m ?_
  refine XL.g ?_
  refine XL.m ?_
  refine XL.g ?_
  refine XL.m ?_
  refine XL.g ?_
  refine XL.lss_s rfl rfl rfl (fun h2 => ?_) (fun h2 => ?_)
  ·refine XL.pick_t rfl rfl rfl ?_
   refine XL.a ?_
   refine XL.n2 ?_
   refine SP.ret ?_
   exact Jp.pur1 (.inr rfl) rfl rfl (by rw [decide_eq_true (by omega)])
  ·refine XL.pick_t rfl rfl rfl ?_
   refine XL.a ?_
   refine XL.n2 ?_
   refine SP.ret ?_
   exact Jp.pur1 (.inr rfl) rfl rfl (by rw [decide_eq_false (by omega)])
 ·refine XL.m ?_
  refine XL.k ?_
  refine XL.k ?_
  refine XL.k ?_
  refine XL.pick_f rfl rfl rfl ?_
  refine XL.a ?_
  refine XL.n2 ?_
  refine SP.ret ?_
  exact Jp.pur1 (.inr rfl) rfl rfl (by rw [decide_eq_false (by omega)])
theorem c36 (p : Pl) : Pur Tryz.prog 36 [plv p] (.bool (decide (MayQ p))) := by
 refine Pcalls (n := 16) Tryz.func36 rfl rfl rfl fun W0 H0 => ?_
 refine SP.r2 ?_
 refine XL.boxA rfl rfl (fun b1 => ?_)
 refine XL.a ?_
 refine XL.n4 ?_
 refine XL.f ?_
 refine XL.l ?_
 refine XL.cs rfl (c62 p.x (-1048576) (1048576)) rfl (fun hx => ?_) (fun hx => ?_)
 ·refine XL.m ?_
  refine XL.g ?_
  refine XL.f ?_
  refine XL.g ?_
  refine XL.l ?_
  refine XL.g ?_
  refine XL.cs rfl (c62 p.z (-1048576) (1048576)) rfl (fun hz => ?_) (fun hz => ?_)
  ·refine XL.pick_t rfl rfl rfl ?_
   refine XL.m ?_
   refine XL.g ?_
   refine XL.f ?_
   refine XL.g ?_
   refine XL.l ?_
   refine XL.g ?_
   refine XL.cs rfl (c62 p.y (0) (64)) rfl (fun hy => ?_) (fun hy => ?_)
   ·refine XL.pick_t rfl rfl rfl ?_
    refine XL.a ?_
    refine XL.n2 ?_
    refine SP.ret ?_
    exact Jp.pur1 (.inr rfl) rfl rfl (by rw [decide_eq_true (show MayQ p by unfold MayQ MayP; omega)])
   ·refine XL.pick_t rfl rfl rfl ?_
    refine XL.a ?_
    refine XL.n2 ?_
    refine SP.ret ?_
    exact Jp.pur1 (.inr rfl) rfl rfl (by rw [decide_eq_false (show ¬ MayQ p by unfold MayQ MayP; omega)])
  ·refine XL.pick_t rfl rfl rfl ?_
   refine XL.m ?_
   refine XL.k ?_
   refine XL.k ?_
   refine XL.k ?_
   refine XL.pick_f rfl rfl rfl ?_
   refine XL.a ?_
   refine XL.n2 ?_
   refine SP.ret ?_
   exact Jp.pur1 (.inr rfl) rfl rfl (by rw [decide_eq_false (show ¬ MayQ p by unfold MayQ MayP; omega)])
 ·refine XL.m ?_
  refine XL.k ?_
  refine XL.k ?_
  refine XL.k ?_
  refine XL.pick_f rfl rfl rfl ?_
  refine XL.m ?_
  refine XL.k ?_
  refine XL.k ?_
  refine XL.k ?_
  refine XL.pick_f rfl rfl rfl ?_
  refine XL.a ?_
  refine XL.n2 ?_
  refine SP.ret ?_
  exact Jp.pur1 (.inr rfl) rfl rfl (by rw [decide_eq_false (show ¬ MayQ p by unfold MayQ MayP; omega)])
theorem c38 (x : Int) (hx : -1048576 ≤ x ∧ x ≤ 1048576) : Pur Tryz.prog 38 [.int .i64 x] (.tuple #[.int .i64 (dn x), .int .i64 (dr x)]) := by
 refine Pcalls (n := 18) Tryz.func38 rfl rfl rfl fun W0 H0 => ?_
 have hb := td_bd hx
 refine SP.r2 ?_
 refine XL.a ?_
 refine XL.a ?_
 refine XL.n4 ?_
 refine XL.m ?_
 refine XL.quo (r := x.tdiv 16) rfl rfl (by decide) (tq64 hx) rfl ?_
 refine XL.a ?_
 refine XL.n4 ?_
 refine XL.m ?_
 refine XL.rem (r := x.tmod 16) rfl rfl (by decide) rfl rfl ?_
 refine XL.a ?_
 refine XL.n5 ?_
 refine SP.r2 ?_
 refine XL.m ?_
 refine XL.lss_s rfl rfl rfl (fun hn => ?_) (fun hn => ?_)
 ·refine XL.n2 ?_
  refine SP.t ?_
  refine SP.r2 ?_
  refine XL.m ?_
  refine XL.sub_i64 rfl rfl (by omega) (by omega) rfl ?_
  refine XL.a ?_
  refine XL.n3 ?_
  refine XL.m ?_
  refine XL.add_i64 rfl rfl (by omega) (by omega) rfl ?_
  refine XL.a ?_
  refine XL.n4 ?_
  refine XL.m ?_
  refine XL.m ?_
  refine XL.a ?_
  refine XL.a ?_
  refine XL.n2 ?_
  refine SP.ret ?_
  exact Jp.pur2 (.inr rfl) rfl rfl rfl (by unfold dn dr; rw [if_pos hn, if_pos hn])
 ·refine XL.n2 ?_
  refine SP.f ?_
  refine SP.skip ?_
  refine Jp.n4 ?_
  refine XL.m ?_
  refine XL.m ?_
  refine XL.a ?_
  refine XL.a ?_
  refine XL.n2 ?_
  refine SP.ret ?_
  exact Jp.pur2 (.inr rfl) rfl rfl rfl (by unfold dn dr; rw [if_neg hn, if_neg hn])
theorem c15_t (p : Pl) (hp : MayQ p) : Pur Tryz.prog 15 [plv p] (.tuple #[plv (rsp p), .bool true]) := by
 refine Pcalls (n := 36) Tryz.func15 rfl rfl rfl fun W0 H0 => ?_
 have hp2 := hp
 unfold MayQ MayP at hp2
 have he : rsp p = ⟨dn p.x, dn p.y, dn p.z⟩ := if_pos hp
 refine SP.r2 ?_
 refine XL.boxA rfl rfl (fun b1 => ?_)
 refine XL.alloc (by rfl) (fun b2 => ?_)
 refine XL.a ?_
 refine XL.n5 ?_
 refine SP.r2 ?_
 refine XL.lA ?_
 refine XL.cp rfl (c36 p) rfl ?_
 rw [decide_eq_true hp]
 refine XL.not_t rfl rfl ?_
 refine XL.n2 ?_
 refine SP.f ?_
 refine SP.skip ?_
 refine Jp.n4 ?_
 refine XL.f ?_
 refine XL.l ?_
 refine XL.cp rfl (c38 p.x (by omega)) rfl ?_
 refine XL.m ?_
 refine XL.x ?_
 refine XL.x ?_
 refine XL.a ?_
 refine XL.a ?_
 refine XL.n4 ?_
 refine XL.f ?_
 refine XL.l ?_
 refine XL.cp rfl (c38 p.y (by omega)) rfl ?_
 refine XL.m ?_
 refine XL.x ?_
 refine XL.x ?_
 refine XL.a ?_
 refine XL.a ?_
 refine XL.n4 ?_
 refine XL.f ?_
 refine XL.l ?_
 refine XL.cp rfl (c38 p.z (by omega)) rfl ?_
 refine XL.m ?_
 refine XL.x ?_
 refine XL.x ?_
 refine XL.a ?_
 refine XL.a ?_
 refine XL.n4 ?_
 refine XL.m ?_
 refine XL.m ?_
 refine XL.m ?_
 refine XL.build (by rfl) (by rfl) ?_
 refine XL.sA ?_
 refine XL.a ?_
 refine XL.n2 ?_
 refine SP.ret ?_
 exact Jp.pur2 (.inr rfl) rfl (Res.cellA (by rfl)) rfl (by rw [he])
theorem c15_f (p : Pl) (hp : ¬ MayQ p) : Pur Tryz.prog 15 [plv p] (.tuple #[plv (rsp p), .bool false]) := by
 refine Pcalls (n := 36) Tryz.func15 rfl rfl rfl fun W0 H0 => ?_
 have he : rsp p = ⟨0, 0, 0⟩ := if_neg hp
 refine SP.r2 ?_
 refine XL.boxA rfl rfl (fun b1 => ?_)
 refine XL.alloc (by rfl) (fun b2 => ?_)
 refine XL.a ?_
 refine XL.n5 ?_
 refine SP.r2 ?_
 refine XL.lA ?_
 refine XL.cp rfl (c36 p) rfl ?_
 rw [decide_eq_false hp]
 refine XL.not_f rfl rfl ?_
 refine XL.n2 ?_
 refine SP.t ?_
 refine SP.r2 ?_
 refine XL.build (by rfl) (by rfl) ?_
 refine XL.sA ?_
 refine XL.a ?_
 refine XL.n2 ?_
 refine SP.ret ?_
 refine Jp.then_ret ?_
 exact Jp.pur2 (.inr rfl) rfl (Res.cellA (by rfl)) rfl (by rw [he])
theorem c37 (a b : Int) : Pur Tryz.prog 37 [.int .i64 a, .int .i64 b] (.tuple #[.int .i64 (mnI a b), .int .i64 (mxI a b)]) := by
 refine Pcalls (n := 13) Tryz.func37 rfl rfl rfl fun W0 H0 => ?_
 refine SP.r2 ?_
 refine XL.a ?_
 refine XL.a ?_
 refine XL.n5 ?_
 refine SP.r2 ?_
 refine XL.m ?_
 refine XL.m ?_
 refine XL.lss_s rfl rfl rfl (fun h => ?_) (fun h => ?_)
 ·refine XL.n2 ?_
  refine SP.t ?_
  refine SP.r2 ?_
  refine XL.m ?_
  refine XL.m ?_
  refine XL.a ?_
  refine XL.a ?_
  refine XL.n2 ?_
  refine SP.ret ?_
  refine Jp.then_ret ?_
  exact Jp.pur2 (.inr rfl) rfl rfl rfl (by rw [show mnI a b = a by unfold mnI; split <;> omega, show mxI a b = b by unfold mxI; split <;> omega])
 ·refine XL.n2 ?_
  refine SP.f ?_
  refine SP.skip ?_
  refine Jp.n4 ?_
  refine XL.m ?_
  refine XL.m ?_
  refine XL.a ?_
  refine XL.a ?_
  refine XL.n2 ?_
  refine SP.ret ?_
  exact Jp.pur2 (.inr rfl) rfl rfl rfl (by rw [show mnI a b = b by unfold mnI; split <;> omega, show mxI a b = a by unfold mxI; split <;> omega])
theorem c14_p (p q : Pl) (hp : ¬ MayQ p) : Pur Tryz.prog 14 [plv p, plv q] (.tuple #[.agg #[.int .i64 0, .int .i64 0, .int .i64 0], .agg #[.int .i64 0, .int .i64 0, .int .i64 0], .int .i64 0, .int .i64 10]) := by
 refine Pcalls (n := 94) Tryz.func14 rfl rfl rfl fun W0 H0 => ?_
 refine SP.r2 ?_
 refine XL.boxA rfl rfl (fun b1 => ?_)
 refine XL.boxA rfl rfl (fun b2 => ?_)
 refine XL.alloc (by rfl) (fun b3 => ?_)
 refine XL.alloc (by rfl) (fun b4 => ?_)
 refine XL.a ?_
 refine XL.a ?_
 refine XL.n5 ?_
 refine SP.r2 ?_
 refine XL.lA ?_
 refine XL.cp rfl (c36 p) rfl ?_
 rw [decide_eq_false hp]
 refine XL.not_f rfl rfl ?_
 refine XL.m ?_
 refine XL.k ?_
 refine XL.k ?_
 refine XL.k ?_
 refine XL.pick_t rfl rfl rfl ?_
 refine XL.n2 ?_
 refine SP.t ?_
 refine SP.r2 ?_
 refine XL.build (by rfl) (by rfl) ?_
 refine XL.build (by rfl) (by rfl) ?_
 refine XL.sA ?_
 refine XL.sA ?_
 refine XL.a ?_
 refine XL.a ?_
 refine XL.n2 ?_
 refine SP.ret ?_
 refine Jp.then_ret ?_
 refine Jp.pur4 (.inr rfl) rfl (Res.cellA (by rfl)) (Res.cellA (by rfl)) rfl rfl rfl
theorem c14_q (p q : Pl) (hp : MayQ p) (hq : ¬ MayQ q) : Pur Tryz.prog 14 [plv p, plv q] (.tuple #[.agg #[.int .i64 0, .int .i64 0, .int .i64 0], .agg #[.int .i64 0, .int .i64 0, .int .i64 0], .int .i64 0, .int .i64 10]) := by
 refine Pcalls (n := 94) Tryz.func14 rfl rfl rfl fun W0 H0 => ?_
 refine SP.r2 ?_
 refine XL.boxA rfl rfl (fun b1 => ?_)
 refine XL.boxA rfl rfl (fun b2 => ?_)
 refine XL.alloc (by rfl) (fun b3 => ?_)
 refine XL.alloc (by rfl) (fun b4 => ?_)
 refine XL.a ?_
 refine XL.a ?_
 refine XL.n5 ?_
 refine SP.r2 ?_
 refine XL.lA ?_
 refine XL.cp rfl (c36 p) rfl ?_
 rw [decide_eq_true hp]
 refine XL.not_t rfl rfl ?_
 refine XL.m ?_
 refine XL.g ?_
 refine XL.lA ?_
 refine XL.g ?_
 refine XL.cp rfl (c36 q) rfl ?_
 rw [decide_eq_false hq]
 refine XL.g ?_
 refine XL.not_f rfl rfl ?_
 refine XL.pick_f rfl rfl rfl ?_
 refine XL.n2 ?_
 refine SP.t ?_
 refine SP.r2 ?_
 refine XL.build (by rfl) (by rfl) ?_
 refine XL.build (by rfl) (by rfl) ?_
 refine XL.sA ?_
 refine XL.sA ?_
 refine XL.a ?_
 refine XL.a ?_
 refine XL.n2 ?_
 refine SP.ret ?_
 refine Jp.then_ret ?_
 refine Jp.pur4 (.inr rfl) rfl (Res.cellA (by rfl)) (Res.cellA (by rfl)) rfl rfl rfl
theorem c14_t (p q : Pl) (hp0 : MayQ p) (hq0 : MayQ q) (hb : BxOk p q) : Pur Tryz.prog 14 [plv p, plv q] (.tuple #[plv (bxLo p q), plv (bxHi p q), .int .i64 (bxN p q), .int .i64 0]) := by
 refine Pcalls (n := 94) Tryz.func14 rfl rfl rfl fun W0 H0 => ?_
 have hp := hp0
 have hq := hq0
 have hx := mm_bd p.x q.x
 have hy := mm_bd p.y q.y
 have hz := mm_bd p.z q.z
 unfold MayQ MayP at hp hq
 have hbx := hb.x
 have hby := hb.y
 have hbz := hb.z
 have hbn := hb.n
 refine SP.r2 ?_
 refine XL.boxA rfl rfl (fun b1 => ?_)
 refine XL.boxA rfl rfl (fun b2 => ?_)
 refine XL.alloc (by rfl) (fun b3 => ?_)
 refine XL.alloc (by rfl) (fun b4 => ?_)
 refine XL.a ?_
 refine XL.a ?_
 refine XL.n5 ?_
 refine SP.r2 ?_
 refine XL.lA ?_
 refine XL.cp rfl (c36 p) rfl ?_
 rw [decide_eq_true hp0]
 refine XL.not_t rfl rfl ?_
 refine XL.m ?_
 refine XL.g ?_
 refine XL.lA ?_
 refine XL.g ?_
 refine XL.cp rfl (c36 q) rfl ?_
 rw [decide_eq_true hq0]
 refine XL.g ?_
 refine XL.not_t rfl rfl ?_
 refine XL.pick_f rfl rfl rfl ?_
 refine XL.n2 ?_
 refine SP.f ?_
 refine SP.skip ?_
 refine Jp.n4 ?_
 refine XL.f ?_
 refine XL.l ?_
 refine XL.f ?_
 refine XL.l ?_
 refine XL.cp rfl (c37 p.x q.x) rfl ?_
 refine XL.m ?_
 refine XL.x ?_
 refine XL.x ?_
 refine XL.a ?_
 refine XL.a ?_
 refine XL.n4 ?_
 refine XL.f ?_
 refine XL.l ?_
 refine XL.f ?_
 refine XL.l ?_
 refine XL.cp rfl (c37 p.y q.y) rfl ?_
 refine XL.m ?_
 refine XL.x ?_
 refine XL.x ?_
 refine XL.a ?_
 refine XL.a ?_
 refine XL.n4 ?_
 refine XL.f ?_
 refine XL.l ?_
 refine XL.f ?_
 refine XL.l ?_
 refine XL.cp rfl (c37 p.z q.z) rfl ?_
 refine XL.m ?_
 refine XL.x ?_
 refine XL.x ?_
 refine XL.a ?_
 refine XL.a ?_
 refine XL.n5 ?_
 refine SP.r2 ?_
 refine XL.m ?_
 refine XL.m ?_
 refine XL.sub_i64 rfl rfl (by omega) (by omega) rfl ?_
 refine XL.geq_s rfl rfl rfl (fun h16x => ?_) (fun h16x => ?_)
 ·exfalso; omega
 ·refine XL.m ?_
  refine XL.g ?_
  refine XL.m ?_
  refine XL.g ?_
  refine XL.m ?_
  refine XL.g ?_
  refine XL.sub_i64 rfl rfl (by omega) (by omega) rfl ?_
  refine XL.g ?_
  refine XL.geq_s rfl rfl rfl (fun h16y => ?_) (fun h16y => ?_)
  ·exfalso; omega
  ·refine XL.pick_f rfl rfl rfl ?_
   refine XL.m ?_
   refine XL.g ?_
   refine XL.m ?_
   refine XL.g ?_
   refine XL.m ?_
   refine XL.g ?_
   refine XL.sub_i64 rfl rfl (by omega) (by omega) rfl ?_
   refine XL.g ?_
   refine XL.geq_s rfl rfl rfl (fun h16z => ?_) (fun h16z => ?_)
   ·exfalso; omega
   ·refine XL.pick_f rfl rfl rfl ?_
    refine XL.n2 ?_
    refine SP.f ?_
    refine SP.skip ?_
    refine Jp.n4 ?_
    refine XL.m ?_
    refine XL.m ?_
    refine XL.sub_i64 rfl rfl (by omega) (by omega) rfl ?_
    refine XL.add_i64 rfl rfl (by omega) (by omega) rfl ?_
    refine XL.m ?_
    refine XL.m ?_
    refine XL.sub_i64 rfl rfl (by omega) (by omega) rfl ?_
    refine XL.add_i64 rfl rfl (by omega) (by omega) rfl ?_
    have hxy := mul_bd (a := mxI p.x q.x - mnI p.x q.x + 1) (b := mxI p.y q.y - mnI p.y q.y + 1) (A := 16) (B := 16) (by omega) (by omega)
    have hxyz := mul_bd (b := mxI p.z q.z - mnI p.z q.z + 1) (B := 16) hxy (by omega)
    refine XL.mul_i64 rfl rfl (by omega) (by omega) rfl ?_
    refine XL.m ?_
    refine XL.m ?_
    refine XL.sub_i64 rfl rfl (by omega) (by omega) rfl ?_
    refine XL.add_i64 rfl rfl (by omega) (by omega) rfl ?_
    refine XL.mul_i64 rfl rfl (by omega) (by omega) rfl ?_
    refine XL.a ?_
    refine XL.n5 ?_
    refine SP.r2 ?_
    refine XL.m ?_
    refine XL.gtr_s rfl rfl rfl (fun h512 => ?_) (fun h512 => ?_)
    ·exfalso; omega
    ·refine XL.n2 ?_
     refine SP.f ?_
     refine SP.skip ?_
     refine Jp.n4 ?_
     refine XL.m ?_
     refine XL.m ?_
     refine XL.m ?_
     refine XL.build (by rfl) (by rfl) ?_
     refine XL.m ?_
     refine XL.m ?_
     refine XL.m ?_
     refine XL.build (by rfl) (by rfl) ?_
     refine XL.m ?_
     refine XL.sA ?_
     refine XL.sA ?_
     refine XL.a ?_
     refine XL.a ?_
     refine XL.n2 ?_
     refine SP.ret ?_
     refine Jp.pur4 (.inr rfl) rfl (Res.cellA (by rfl)) (Res.cellA (by rfl)) rfl rfl rfl
theorem c14_b (p q : Pl) (hp0 : MayQ p) (hq0 : MayQ q) (hb : ¬ BxOk p q) : Pur Tryz.prog 14 [plv p, plv q] (.tuple #[.agg #[.int .i64 0, .int .i64 0, .int .i64 0], .agg #[.int .i64 0, .int .i64 0, .int .i64 0], .int .i64 0, .int .i64 3]) := by
 refine Pcalls (n := 94) Tryz.func14 rfl rfl rfl fun W0 H0 => ?_
 have hp := hp0
 have hq := hq0
 have hx := mm_bd p.x q.x
 have hy := mm_bd p.y q.y
 have hz := mm_bd p.z q.z
 unfold MayQ MayP at hp hq
 refine SP.r2 ?_
 refine XL.boxA rfl rfl (fun b1 => ?_)
 refine XL.boxA rfl rfl (fun b2 => ?_)
 refine XL.alloc (by rfl) (fun b3 => ?_)
 refine XL.alloc (by rfl) (fun b4 => ?_)
 refine XL.a ?_
 refine XL.a ?_
 refine XL.n5 ?_
 refine SP.r2 ?_
 refine XL.lA ?_
 refine XL.cp rfl (c36 p) rfl ?_
 rw [decide_eq_true hp0]
 refine XL.not_t rfl rfl ?_
 refine XL.m ?_
 refine XL.g ?_
 refine XL.lA ?_
 refine XL.g ?_
 refine XL.cp rfl (c36 q) rfl ?_
 rw [decide_eq_true hq0]
 refine XL.g ?_
 refine XL.not_t rfl rfl ?_
 refine XL.pick_f rfl rfl rfl ?_
 refine XL.n2 ?_
 refine SP.f ?_
 refine SP.skip ?_
 refine Jp.n4 ?_
 refine XL.f ?_
 refine XL.l ?_
 refine XL.f ?_
 refine XL.l ?_
 refine XL.cp rfl (c37 p.x q.x) rfl ?_
 refine XL.m ?_
 refine XL.x ?_
 refine XL.x ?_
 refine XL.a ?_
 refine XL.a ?_
 refine XL.n4 ?_
 refine XL.f ?_
 refine XL.l ?_
 refine XL.f ?_
 refine XL.l ?_
 refine XL.cp rfl (c37 p.y q.y) rfl ?_
 refine XL.m ?_
 refine XL.x ?_
 refine XL.x ?_
 refine XL.a ?_
 refine XL.a ?_
 refine XL.n4 ?_
 refine XL.f ?_
 refine XL.l ?_
 refine XL.f ?_
 refine XL.l ?_
 refine XL.cp rfl (c37 p.z q.z) rfl ?_
 refine XL.m ?_
 refine XL.x ?_
 refine XL.x ?_
 refine XL.a ?_
 refine XL.a ?_
 refine XL.n5 ?_
 refine SP.r2 ?_
 refine XL.m ?_
 refine XL.m ?_
 refine XL.sub_i64 rfl rfl (by omega) (by omega) rfl ?_
 refine XL.geq_s rfl rfl rfl (fun h16x => ?_) (fun h16x => ?_)
 ·refine XL.m ?_
  refine XL.k ?_
  refine XL.k ?_
  refine XL.k ?_
  refine XL.k ?_
  refine XL.pick_t rfl rfl rfl ?_
  refine XL.m ?_
  refine XL.k ?_
  refine XL.k ?_
  refine XL.k ?_
  refine XL.k ?_
  refine XL.pick_t rfl rfl rfl ?_
  refine XL.n2 ?_
  refine SP.t ?_
  refine SP.r2 ?_
  refine XL.build (by rfl) (by rfl) ?_
  refine XL.build (by rfl) (by rfl) ?_
  refine XL.sA ?_
  refine XL.sA ?_
  refine XL.a ?_
  refine XL.a ?_
  refine XL.n2 ?_
  refine SP.ret ?_
  refine Jp.then_ret ?_
  refine Jp.pur4 (.inr rfl) rfl (Res.cellA (by rfl)) (Res.cellA (by rfl)) rfl rfl rfl
 ·refine XL.m ?_
  refine XL.g ?_
  refine XL.m ?_
  refine XL.g ?_
  refine XL.m ?_
  refine XL.g ?_
  refine XL.sub_i64 rfl rfl (by omega) (by omega) rfl ?_
  refine XL.g ?_
  refine XL.geq_s rfl rfl rfl (fun h16y => ?_) (fun h16y => ?_)
  ·refine XL.pick_f rfl rfl rfl ?_
   refine XL.m ?_
   refine XL.k ?_
   refine XL.k ?_
   refine XL.k ?_
   refine XL.k ?_
   refine XL.pick_t rfl rfl rfl ?_
   refine XL.n2 ?_
   refine SP.t ?_
   refine SP.r2 ?_
   refine XL.build (by rfl) (by rfl) ?_
   refine XL.build (by rfl) (by rfl) ?_
   refine XL.sA ?_
   refine XL.sA ?_
   refine XL.a ?_
   refine XL.a ?_
   refine XL.n2 ?_
   refine SP.ret ?_
   refine Jp.then_ret ?_
   refine Jp.pur4 (.inr rfl) rfl (Res.cellA (by rfl)) (Res.cellA (by rfl)) rfl rfl rfl
  ·refine XL.pick_f rfl rfl rfl ?_
   refine XL.m ?_
   refine XL.g ?_
   refine XL.m ?_
   refine XL.g ?_
   refine XL.m ?_
   refine XL.g ?_
   refine XL.sub_i64 rfl rfl (by omega) (by omega) rfl ?_
   refine XL.g ?_
   refine XL.geq_s rfl rfl rfl (fun h16z => ?_) (fun h16z => ?_)
   ·refine XL.pick_f rfl rfl rfl ?_
    refine XL.n2 ?_
    refine SP.t ?_
    refine SP.r2 ?_
    refine XL.build (by rfl) (by rfl) ?_
    refine XL.build (by rfl) (by rfl) ?_
    refine XL.sA ?_
    refine XL.sA ?_
    refine XL.a ?_
    refine XL.a ?_
    refine XL.n2 ?_
    refine SP.ret ?_
    refine Jp.then_ret ?_
    refine Jp.pur4 (.inr rfl) rfl (Res.cellA (by rfl)) (Res.cellA (by rfl)) rfl rfl rfl
   ·refine XL.pick_f rfl rfl rfl ?_
    refine XL.n2 ?_
    refine SP.f ?_
    refine SP.skip ?_
    refine Jp.n4 ?_
    refine XL.m ?_
    refine XL.m ?_
    refine XL.sub_i64 rfl rfl (by omega) (by omega) rfl ?_
    refine XL.add_i64 rfl rfl (by omega) (by omega) rfl ?_
    refine XL.m ?_
    refine XL.m ?_
    refine XL.sub_i64 rfl rfl (by omega) (by omega) rfl ?_
    refine XL.add_i64 rfl rfl (by omega) (by omega) rfl ?_
    have hxy := mul_bd (a := mxI p.x q.x - mnI p.x q.x + 1) (b := mxI p.y q.y - mnI p.y q.y + 1) (A := 16) (B := 16) (by omega) (by omega)
    have hxyz := mul_bd (b := mxI p.z q.z - mnI p.z q.z + 1) (B := 16) hxy (by omega)
    refine XL.mul_i64 rfl rfl (by omega) (by omega) rfl ?_
    refine XL.m ?_
    refine XL.m ?_
    refine XL.sub_i64 rfl rfl (by omega) (by omega) rfl ?_
    refine XL.add_i64 rfl rfl (by omega) (by omega) rfl ?_
    refine XL.mul_i64 rfl rfl (by omega) (by omega) rfl ?_
    refine XL.a ?_
    refine XL.n5 ?_
    refine SP.r2 ?_
    refine XL.m ?_
    refine XL.gtr_s rfl rfl rfl (fun h512 => ?_) (fun h512 => ?_)
    ·refine XL.n2 ?_
     refine SP.t ?_
     refine SP.r2 ?_
     refine XL.build (by rfl) (by rfl) ?_
     refine XL.build (by rfl) (by rfl) ?_
     refine XL.sA ?_
     refine XL.sA ?_
     refine XL.a ?_
     refine XL.a ?_
     refine XL.n2 ?_
     refine SP.ret ?_
     refine Jp.then_ret ?_
     refine Jp.pur4 (.inr rfl) rfl (Res.cellA (by rfl)) (Res.cellA (by rfl)) rfl rfl rfl
    ·exact absurd ⟨hp0, hq0, by omega, by omega, by omega, by omega⟩ hb
open Classical in
noncomputable def bxC (p q : Pl) : Int := if BxOk p q then bxN p q else 0
theorem bxC_bd (p q : Pl) : 0 ≤ bxC p q ∧ bxC p q ≤ 512 := by
 unfold bxC; split
 ·next h =>
  refine ⟨?_, h.n⟩
  have hx := mm_bd p.x q.x; have hy := mm_bd p.y q.y; have hz := mm_bd p.z q.z
  exact Int.mul_nonneg (Int.mul_nonneg (by omega) (by omega)) (by omega)
 ·decide
theorem c14 (p q : Pl) : ∃ (lo hi : Pl) (e : Int), Pur Tryz.prog 14 [plv p, plv q] (.tuple #[plv lo, plv hi, .int .i64 (bxC p q), .int .i64 e]) := by
 by_cases hb : BxOk p q
 ·have e : bxC p q = bxN p q := if_pos hb
  rw [e]; exact ⟨_, _, _, c14_t p q hb.mp hb.mq hb⟩
 ·have e : bxC p q = 0 := if_neg hb
  rw [e]
  by_cases hp : MayQ p
  ·by_cases hq : MayQ q
   ·exact ⟨⟨0, 0, 0⟩, ⟨0, 0, 0⟩, _, c14_b p q hp hq hb⟩
   ·exact ⟨⟨0, 0, 0⟩, ⟨0, 0, 0⟩, _, c14_q p q hp hq⟩
  ·exact ⟨⟨0, 0, 0⟩, ⟨0, 0, 0⟩, _, c14_p p q hp⟩
end Go.Proofs

