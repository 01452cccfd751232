/- For every seed and every list of operations ModelLedger returns true, and each argument reads behind the call as it read before: no condition. The last part: the law and the join. -/
import Derived.Deep.Slices
import Derived.ProofKit
import Derived.SizedLaws
import Derived.Test.YtebkegcjgkkcgaaGreatP05
import Derived.Test.YtebkegcjgkkcgaaGreatRows
set_option linter.unusedVariables false
set_option linter.unusedSimpArgs false
set_option linter.unusedSectionVars false
set_option linter.deprecated false
set_option maxHeartbeats 1000000
namespace Go.Proofs
open Go.Bk
theorem OpR.len (o : OpR) : o.cs.length = 10 := rfl
structure FwS where
 n : Int
 t : Int
 sp : List Pl
noncomputable section
open Classical
def fwN (o : OpR) (n : Int) : Int := if o.kind = 2 then n + bxC o.p o.q else n
def fwT (o : OpR) (t : Int) : Int := if o.kind = 6 ∧ 1 ≤ o.n ∧ o.n ≤ 16 then t + o.n else t
def fwP (o : OpR) (x : Pl) : Prop := ¬ MayQ x ∨ (o.kind ≠ 2 ∧ x = o.q)
def fsp (x : Pl) : Pl := ⟨(rsp x).x, 0, (rsp x).z⟩
def fwAdd (o : OpR) (sp : List Pl) (x : Pl) : List Pl := if fwP o x ∨ fsp x ∈ sp then sp else sp ++ [fsp x]
def fwMid (o : OpR) (sp : List Pl) (k : Nat) : List Pl := if k = 0 then sp else if k = 1 then fwAdd o sp o.p else fwAdd o (fwAdd o sp o.p) o.q
def fwSp (o : OpR) (sp : List Pl) : List Pl := if o.kind = 1 ∨ o.kind = 2 ∨ o.kind = 3 then fwMid o sp 2 else sp
def fwStep (w : FwS) (o : OpR) : FwS := ⟨fwN o w.n, fwT o w.t, fwSp o w.sp⟩
def Fw (l : List OpR) (i : Nat) : FwS := (l.take i).foldl fwStep ⟨0, 0, []⟩
theorem Fw_succ {l : List OpR} {i : Nat} {o : OpR} (h : l[i]? = some o) : Fw l (i + 1) = fwStep (Fw l i) o := by
 unfold Fw
 rw [List.take_add_one, h]; simp
theorem fwAdd_len (o : OpR) (sp : List Pl) (x : Pl) : (fwAdd o sp x).length ≤ sp.length + 1 := by unfold fwAdd; split <;> simp
structure FwB (w : FwS) (i : Nat) : Prop where
 n : 0 ≤ w.n ∧ w.n ≤ 512 * (i : Int)
 t : 0 ≤ w.t ∧ w.t ≤ 16 * (i : Int)
 sp : w.sp.length ≤ 2 * i
theorem fwMid_len (o : OpR) (sp : List Pl) (k : Nat) : (fwMid o sp k).length ≤ sp.length + 2 := by
 unfold fwMid
 have h1 := fwAdd_len o sp o.p
 have h2 := fwAdd_len o (fwAdd o sp o.p) o.q
 split
 ·omega
 ·split <;> omega
theorem FwB.step {w : FwS} {i : Nat} (h : FwB w i) (o : OpR) : FwB (fwStep w o) (i + 1) := by
 have hb := bxC_bd o.p o.q
 have h1 := h.n; have h2 := h.t; have h3 := h.sp
 have h4 := fwMid_len o w.sp 2
 refine ⟨?_, ?_, ?_⟩
 ·show 0 ≤ fwN o w.n ∧ fwN o w.n ≤ 512 * ((i + 1 : Nat) : Int)
  unfold fwN; split <;> omega
 ·show 0 ≤ fwT o w.t ∧ fwT o w.t ≤ 16 * ((i + 1 : Nat) : Int)
  unfold fwT; split <;> omega
 ·show (fwSp o w.sp).length ≤ 2 * (i + 1)
  unfold fwSp; split <;> omega
def fewB (l : List OpR) : Bool := decide ((l.length : Int) ≤ 40 ∧ (Fw l l.length).n ≤ 1500 ∧ (Fw l l.length).t ≤ 60 ∧ ((Fw l l.length).sp.length : Int) ≤ 8)
theorem fwAdd_t {o : OpR} {sp : List Pl} {x : Pl} (h : fwP o x ∨ fsp x ∈ sp) : fwAdd o sp x = sp := if_pos h
theorem fwAdd_f {o : OpR} {sp : List Pl} {x : Pl} (h : ¬ (fwP o x ∨ fsp x ∈ sp)) : fwAdd o sp x = sp ++ [fsp x] := if_neg h
end
def pq (o : OpR) (k : Nat) : Pl := if k = 0 then o.p else o.q
theorem pq_at (o : OpR) {k : Nat} (h : k < 2) : SbL [.int .i64 o.p.x, .int .i64 o.p.y, .int .i64 o.p.z, .int .i64 o.q.x, .int .i64 o.q.y, .int .i64 o.q.z] (k * 3) 3 (pq o k).cs := by
 obtain rfl | rfl : k = 0 ∨ k = 1 := by omega
 all_goals exact ⟨Nat.le_of_ble_eq_true rfl, rfl⟩
theorem fwMid_succ (o : OpR) (sp : List Pl) {k : Nat} (h : k < 2) : fwMid o sp (k + 1) = fwAdd o (fwMid o sp k) (pq o k) := by
 obtain rfl | rfl : k = 0 ∨ k = 1 := by omega
 all_goals rfl
theorem any_take {sp : List Pl} {s x : Pl} {j : Nat} {b : Bool} {p : Prop} (hb : b = true ↔ p ∨ ∃ i, i < j ∧ sp[i]? = some s) (hx : sp[j]? = some x) (b' : Bool) (h : b' = true ↔ b = true ∨ x = s) : b' = true ↔ p ∨ ∃ i, i < j + 1 ∧ sp[i]? = some s := by
 rw [h, hb]
 constructor
 ·rintro ((h | ⟨i, h1, h2⟩) | rfl)
  ·exact .inl h
  ·exact .inr ⟨i, by omega, h2⟩
  ·exact .inr ⟨j, by omega, hx⟩
 ·rintro (h | ⟨i, h1, h2⟩)
  ·exact .inl (.inl h)
  ·by_cases e : i = j
   ·subst e; rw [hx] at h2; exact .inr (Option.some.inj h2)
   ·exact .inl (.inr ⟨i, by omega, h2⟩)
theorem any_all {sp : List Pl} {s : Pl} {b : Bool} {p : Prop} (hb : b = true ↔ p ∨ ∃ i, i < sp.length ∧ sp[i]? = some s) : b = true ↔ p ∨ s ∈ sp := by
 rw [hb]
 constructor
 ·rintro (h | ⟨i, _, h⟩)
  ·exact .inl h
  ·exact .inr (List.mem_of_getElem? h)
 ·rintro (h | h)
  ·exact .inl h
  ·obtain ⟨i, hi, e⟩ := List.getElem_of_mem h
   exact .inr ⟨i, hi, by rw [List.getElem?_eq_getElem hi, e]⟩
theorem c5b (bI oI TI cl : Nat) (fI : Nat × Nat) (csI : List Value) (l : List OpR) (hn : l.length ≤ 2000000000000) (hcs : ∀ i x, l[i]? = some x → SbL csI (oI + i * 10) 10 x.cs) : Tri Tryz.prog 5 [.slice (some ⟨bI, oI, none⟩) l.length cl] [ptI bI csI TI fI] (fun r Γ' => r = .bool (fewB l) ∧ Γ' = [ptI bI csI TI fI]) := by
 refine Pcalls (n := 141) Tryz.func5 rfl rfl rfl fun W0 H0 => ?_
 refine SP.r2 ?_
 refine XL.a ?_
 refine XL.n4 ?_
 refine XL.a ?_
 refine XL.a ?_
 refine XL.n4 ?_
 refine XL.a ?_
 refine XL.n5 ?_
 refine SP.r2 ?_
 refine XL.a ?_
 refine XL.n2 ?_
 refine SP.block ?_
 refine SP.gam (star_nilS (E := 34) (k := 3)) ?_
 refine SP.loop (X := Nat × Value) (fun w => [(6, .int .i64 (w.1 : Int)), (3, .int .i64 (Fw l w.1).n), (4, .int .i64 (Fw l w.1).t), (5, w.2), (0, .slice (some ⟨bI, oI, none⟩) l.length cl)]) (fun w => [ptI bI csI TI fI, SpS w.2 (Fw l w.1).sp]) (fun w => w.1 ≤ l.length ∧ FwB (Fw l w.1) w.1) (fun w => l.length - w.1) (0, .slice none 0 0) ⟨Nat.zero_le _, ⟨⟨Int.le_refl _, Int.le_refl _⟩, ⟨Int.le_refl _, Int.le_refl _⟩, Nat.le_refl _⟩⟩ (by repeat' constructor) (Pk.drop (by repeat' constructor)) ?_
 rintro ⟨i, v⟩ ⟨hi, hB⟩
 dsimp only at *
 have hbn := hB.n
 have hbt := hB.t
 have hbs := hB.sp
 refine SP.seq ?_
 refine SP.r2 ?_
 refine XL.m ?_
 refine XL.m ?_
 refine XL.len (by rfl) (by rfl) ?_
 refine XL.lss_s rfl rfl rfl (fun hc => ?_) (fun hc => ?_)
 ·obtain ⟨o, hgo⟩ : ∃ o, l[i]? = some o := ⟨_, List.getElem?_eq_getElem (show i < l.length by omega)⟩
  have hbx := bxC_bd o.p o.q
  refine XL.n2 ?_
  refine SP.t ?_
  refine SP.skip ?_
  refine Jp.then_normal ?_
  refine SP.seq ?_
  refine SP.block ?_
  refine SP.r2 ?_
  refine XL.m ?_
  refine XL.m ?_
  refine XL.indexSl (r := oI + i * 10) rfl rfl (by omega) (by omega) (by simp) rfl ?_
  refine XL.loadI rfl (by repeat' constructor) (hcs i o hgo) rfl ?_
  refine XL.alloc (by rfl) (fun b1 => ?_)
  refine XL.sA ?_
  refine XL.n2 ?_
  refine SP.cut (X := Unit) (fun _u => [(3, .int .i64 (fwN o (Fw l i).n)), (4, .int .i64 (Fw l i).t), (5, v), (7, .pointer (some ⟨b1, 0, none⟩)), (6, .int .i64 (i : Int)), (0, .slice (some ⟨bI, oI, none⟩) l.length cl)]) (fun _u => [pt b1 (cel o.cs 58), ptI bI csI TI fI, SpS v (Fw l i).sp]) (fun _u => True) ?_ ?_
  ·refine SP.r2 ?_
   refine XL.f ?_
   refine XL.l ?_
   refine XL.eql_s rfl rfl rfl (fun h2 => ?_) (fun h2 => ?_)
   ·refine XL.n2 ?_
    refine SP.t ?_
    refine SP.r2 ?_
    refine XL.f ?_
    refine XL.lA ?_
    refine XL.f ?_
    refine XL.lA ?_
    obtain ⟨lo, hi2, be, hbox⟩ := c14 o.p o.q
    refine XL.cp rfl hbox rfl ?_
    refine XL.m ?_
    refine XL.x ?_
    refine XL.x ?_
    refine XL.x ?_
    refine XL.x ?_
    refine XL.alloc (by rfl) (fun b2 => ?_)
    refine XL.alloc (by rfl) (fun b3 => ?_)
    refine XL.sA ?_
    refine XL.sA ?_
    refine XL.a ?_
    refine XL.a ?_
    refine XL.n3 ?_
    refine XL.m ?_
    refine XL.m ?_
    refine XL.add_i64 rfl rfl (by omega) (by omega) rfl ?_
    refine XL.a ?_
    refine XL.nil ?_
    refine Jp.meet () trivial (by rw [show fwN o (Fw l i).n = _ from if_pos h2]; repeat' constructor) (Pk.drop (by repeat' constructor))
   ·refine XL.n2 ?_
    refine SP.f ?_
    refine SP.skip ?_
    refine Jp.meet () trivial (by rw [show fwN o (Fw l i).n = _ from if_neg h2]; repeat' constructor) (Pk.drop (by repeat' constructor))
  ·rintro _ _
   refine SP.cut (X := Unit) (fun _u => [(3, .int .i64 (fwN o (Fw l i).n)), (4, .int .i64 (fwT o (Fw l i).t)), (5, v), (7, .pointer (some ⟨b1, 0, none⟩)), (6, .int .i64 (i : Int)), (0, .slice (some ⟨bI, oI, none⟩) l.length cl)]) (fun _u => [pt b1 (cel o.cs 58), ptI bI csI TI fI, SpS v (Fw l i).sp]) (fun _u => True) ?_ ?_
   ·refine SP.r2 ?_
    refine XL.f ?_
    refine XL.l ?_
    refine XL.eql_s rfl rfl rfl (fun h6 => ?_) (fun h6 => ?_)
    ·refine XL.m ?_
     refine XL.g ?_
     refine XL.f ?_
     refine XL.g ?_
     refine XL.l ?_
     refine XL.g ?_
     refine XL.geq_s rfl rfl rfl (fun h6a => ?_) (fun h6a => ?_)
     ·refine XL.pick_t rfl rfl rfl ?_
      refine XL.m ?_
      refine XL.g ?_
      refine XL.f ?_
      refine XL.g ?_
      refine XL.l ?_
      refine XL.g ?_
      refine XL.leq_s rfl rfl rfl (fun h6b => ?_) (fun h6b => ?_)
      ·refine XL.pick_t rfl rfl rfl ?_
       refine XL.n2 ?_
       refine SP.t ?_
       refine SP.region ?_
       refine XL.m ?_
       refine XL.f ?_
       refine XL.l ?_
       refine XL.add_i64 rfl rfl (by omega) (by omega) rfl ?_
       refine XL.a ?_
       refine XL.nil ?_
       refine Jp.meet () trivial (by rw [show fwT o (Fw l i).t = _ from if_pos (by omega)]; repeat' constructor) (Pk.drop (by repeat' constructor))
      ·refine XL.pick_t rfl rfl rfl ?_
       refine XL.n2 ?_
       refine SP.f ?_
       refine SP.skip ?_
       refine Jp.meet () trivial (by rw [show fwT o (Fw l i).t = _ from if_neg (by omega)]; repeat' constructor) (Pk.drop (by repeat' constructor))
     ·refine XL.pick_t rfl rfl rfl ?_
      refine XL.m ?_
      refine XL.k ?_
      refine XL.k ?_
      refine XL.k ?_
      refine XL.pick_f rfl rfl rfl ?_
      refine XL.n2 ?_
      refine SP.f ?_
      refine SP.skip ?_
      refine Jp.meet () trivial (by rw [show fwT o (Fw l i).t = _ from if_neg (by omega)]; repeat' constructor) (Pk.drop (by repeat' constructor))
    ·refine XL.m ?_
     refine XL.k ?_
     refine XL.k ?_
     refine XL.k ?_
     refine XL.pick_f rfl rfl rfl ?_
     refine XL.m ?_
     refine XL.k ?_
     refine XL.k ?_
     refine XL.k ?_
     refine XL.pick_f rfl rfl rfl ?_
     refine XL.n2 ?_
     refine SP.f ?_
     refine SP.skip ?_
     refine Jp.meet () trivial (by rw [show fwT o (Fw l i).t = _ from if_neg (by omega)]; repeat' constructor) (Pk.drop (by repeat' constructor))
   ·rintro _ _
    refine SP.cut (X := Unit) (fun _u => [(3, .int .i64 (fwN o (Fw l i).n)), (4, .int .i64 (fwT o (Fw l i).t)), (5, v), (7, .pointer (some ⟨b1, 0, none⟩)), (6, .int .i64 (i : Int)), (0, .slice (some ⟨bI, oI, none⟩) l.length cl)]) (fun _u => [pt b1 (cel o.cs 58), ptI bI csI TI fI, SpS v (Fw l i).sp]) (fun _u => o.kind = 1 ∨ o.kind = 2 ∨ o.kind = 3) ?_ ?_
    ·refine SP.r2 ?_
     refine XL.f ?_
     refine XL.l ?_
     refine XL.neq_s rfl rfl rfl (fun e1 => ?_) (fun e1 => ?_)
     ·refine XL.m ?_
      refine XL.g ?_
      refine XL.f ?_
      refine XL.g ?_
      refine XL.l ?_
      refine XL.g ?_
      refine XL.neq_s rfl rfl rfl (fun e2 => ?_) (fun e2 => ?_)
      ·refine XL.pick_t rfl rfl rfl ?_
       refine XL.m ?_
       refine XL.g ?_
       refine XL.f ?_
       refine XL.g ?_
       refine XL.l ?_
       refine XL.g ?_
       refine XL.neq_s rfl rfl rfl (fun e3 => ?_) (fun e3 => ?_)
       ·refine XL.pick_t rfl rfl rfl ?_
        refine XL.n2 ?_
        refine SP.t ?_
        refine SP.exit ?_
        refine Jp.then_exit ?_
        refine Jp.block_here ?_
        refine Jp.then_normal ?_
        refine SP.region ?_
        refine XL.m ?_
        refine XL.add_i64 rfl rfl (by omega) (by omega) rfl ?_
        refine XL.a ?_
        refine XL.nil ?_
        rw [show fwN o (Fw l i).n = (Fw l (i + 1)).n by rw [Fw_succ hgo]; rfl, show fwT o (Fw l i).t = (Fw l (i + 1)).t by rw [Fw_succ hgo]; rfl]
        rw [show (Fw l i).sp = (Fw l (i + 1)).sp by rw [Fw_succ hgo]; exact (if_neg (by omega)).symm]
        refine Jp.rd (i + 1, v) ⟨by show i + 1 ≤ l.length; omega, by show FwB (Fw l (i + 1)) (i + 1); rw [Fw_succ hgo]; exact hB.step o⟩ (by show l.length - (i + 1) < l.length - i; omega)
       ·refine XL.pick_t rfl rfl rfl ?_
        refine XL.n2 ?_
        refine SP.f ?_
        refine SP.skip ?_
        refine Jp.mt () (by omega)
      ·refine XL.pick_t rfl rfl rfl ?_
       refine XL.m ?_
       refine XL.k ?_
       refine XL.k ?_
       refine XL.k ?_
       refine XL.pick_f rfl rfl rfl ?_
       refine XL.n2 ?_
       refine SP.f ?_
       refine SP.skip ?_
       refine Jp.mt () (by omega)
     ·refine XL.m ?_
      refine XL.k ?_
      refine XL.k ?_
      refine XL.k ?_
      refine XL.pick_f rfl rfl rfl ?_
      refine XL.m ?_
      refine XL.k ?_
      refine XL.k ?_
      refine XL.k ?_
      refine XL.pick_f rfl rfl rfl ?_
      refine XL.n2 ?_
      refine SP.f ?_
      refine SP.skip ?_
      refine Jp.mt () (by omega)
    ·rintro _ hk123
     refine SP.r2 ?_
     refine XL.f ?_
     refine XL.lA ?_
     refine XL.f ?_
     refine XL.lA ?_
     refine XL.buildSlice (by rfl) (by rfl) (by rfl) (by decide) rfl (fun b5 => ?_)
     refine XL.len (by rfl) (by rfl) ?_
     refine XL.m ?_
     refine XL.n2 ?_
     refine SP.block ?_
     refine SP.loop (X := Nat × Value) (fun w => [(80, .int .i64 (w.1 : Int)), (79, .int .i64 2), (78, .slice (some ⟨b5, 0, none⟩) 2 2), (5, w.2), (6, .int .i64 (i : Int)), (0, .slice (some ⟨bI, oI, none⟩) l.length cl), (3, .int .i64 (fwN o (Fw l i).n)), (4, .int .i64 (fwT o (Fw l i).t)), (7, .pointer (some ⟨b1, 0, none⟩))]) (fun w => [SpS w.2 (fwMid o (Fw l i).sp w.1), pt b1 (cel o.cs 58), ptI bI csI TI fI, pt b5 (cel [.int .i64 o.p.x, .int .i64 o.p.y, .int .i64 o.p.z, .int .i64 o.q.x, .int .i64 o.q.y, .int .i64 o.q.z] 49)]) (fun w => w.1 ≤ 2) (fun w => 2 - w.1) (0, v) (Nat.zero_le _) (by repeat' constructor) (Pk.drop (by repeat' constructor)) ?_
     rintro ⟨k, v1⟩ hk
     dsimp only at *
     have hml := fwMid_len o (Fw l i).sp k
     refine SP.r2 ?_
     refine XL.lss_s rfl rfl rfl (fun hk2 => ?_) (fun hk2 => ?_)
     ·refine XL.n5 ?_
      refine SP.t ?_
      refine SP.skip ?_
      refine Jp.then_normal ?_
      refine SP.seq ?_
      refine SP.block ?_
      refine SP.r2 ?_
      refine XL.indexSl (r := k * 3) rfl rfl (by omega) (by omega) (by simp) rfl ?_
      refine XL.loadA (hs := pq_at o (show k < 2 by omega)) rfl rfl ?_
      refine XL.alloc (by rfl) (fun b6 => ?_)
      refine XL.sA ?_
      refine XL.n4 ?_
      refine XL.lA ?_
      by_cases hmx : MayQ (pq o k)
      ·refine XL.cp rfl (c15_t (pq o k) hmx) rfl ?_
       refine XL.m ?_
       refine XL.x ?_
       refine XL.x ?_
       refine XL.alloc (by rfl) (fun b7 => ?_)
       refine XL.sA ?_
       refine XL.a ?_
       refine XL.n4 ?_
       refine XL.f ?_
       refine XL.store (by rfl) (by rfl) (by rfl) ?_
       refine XL.n2 ?_
       refine SP.cut (X := Bool) (fun b => [(16, .bool b), (80, .int .i64 (k : Int)), (79, .int .i64 2), (78, .slice (some ⟨b5, 0, none⟩) 2 2), (5, v1), (13, .pointer (some ⟨b6, 0, none⟩)), (14, .pointer (some ⟨b7, 0, none⟩)), (6, .int .i64 (i : Int)), (0, .slice (some ⟨bI, oI, none⟩) l.length cl), (3, .int .i64 (fwN o (Fw l i).n)), (4, .int .i64 (fwT o (Fw l i).t)), (7, .pointer (some ⟨b1, 0, none⟩))]) (fun b => [SpS v1 (fwMid o (Fw l i).sp k), pt b7 (cel (fsp (pq o k)).cs 34), pt b6 (cel (pq o k).cs 49), pt b1 (cel o.cs 58), ptI bI csI TI fI, pt b5 (cel [.int .i64 o.p.x, .int .i64 o.p.y, .int .i64 o.p.z, .int .i64 o.q.x, .int .i64 o.q.y, .int .i64 o.q.z] 49)]) (fun b => (b = true ↔ fwP o (pq o k))) ?_ ?_
       ·refine SP.region ?_
        refine XL.m ?_
        refine XL.not_t rfl rfl ?_
        refine XL.m ?_
        refine XL.g ?_
        refine XL.f ?_
        refine XL.g ?_
        refine XL.l ?_
        refine XL.g ?_
        refine XL.neq_s rfl rfl rfl (fun hn2 => ?_) (fun hn2 => ?_)
        ·refine XL.g ?_
         refine XL.m ?_
         refine XL.g ?_
         refine XL.lA ?_
         refine XL.g ?_
         refine XL.f ?_
         refine XL.g ?_
         refine XL.lA ?_
         refine XL.g ?_
         refine XL.eqlT (pq o k) o.q (by rfl) (by rfl) rfl (fun hq => ?_) (fun hq => ?_)
         ·refine XL.g ?_
          refine XL.pick_t rfl rfl rfl ?_
          refine XL.pick_f rfl rfl rfl ?_
          refine XL.a ?_
          refine XL.nil ?_
          refine Jp.mt true ⟨fun _ => .inr ⟨hn2, hq⟩, fun _ => rfl⟩
         ·refine XL.g ?_
          refine XL.pick_t rfl rfl rfl ?_
          refine XL.pick_f rfl rfl rfl ?_
          refine XL.a ?_
          refine XL.nil ?_
          refine Jp.mt false ⟨fun h => Bool.noConfusion h, fun h => by rcases h with h | ⟨_, h⟩; exact absurd hmx h; exact absurd h hq⟩
        ·refine XL.g ?_
         refine XL.m ?_
         refine XL.k ?_
         refine XL.k ?_
         refine XL.k ?_
         refine XL.k ?_
         refine XL.g ?_
         refine XL.pick_f rfl rfl rfl ?_
         refine XL.pick_f rfl rfl rfl ?_
         refine XL.a ?_
         refine XL.nil ?_
         refine Jp.mt false ⟨fun h => Bool.noConfusion h, fun h => by rcases h with h | ⟨h, _⟩; exact absurd hmx h; exact absurd hn2 (by omega)⟩
       ·rintro b0 hb0
        refine SP.seq ?_
        refine SP.r2 ?_
        refine XL.a ?_
        refine XL.n2 ?_
        refine SP.block ?_
        refine SP.loop (X := Nat × Bool) (fun w => [(17, .int .i64 (w.1 : Int)), (16, .bool w.2), (80, .int .i64 (k : Int)), (79, .int .i64 2), (78, .slice (some ⟨b5, 0, none⟩) 2 2), (5, v1), (13, .pointer (some ⟨b6, 0, none⟩)), (14, .pointer (some ⟨b7, 0, none⟩)), (6, .int .i64 (i : Int)), (0, .slice (some ⟨bI, oI, none⟩) l.length cl), (3, .int .i64 (fwN o (Fw l i).n)), (4, .int .i64 (fwT o (Fw l i).t)), (7, .pointer (some ⟨b1, 0, none⟩))]) (fun w => [SpS v1 (fwMid o (Fw l i).sp k), pt b7 (cel (fsp (pq o k)).cs 34), pt b6 (cel (pq o k).cs 49), pt b1 (cel o.cs 58), ptI bI csI TI fI, pt b5 (cel [.int .i64 o.p.x, .int .i64 o.p.y, .int .i64 o.p.z, .int .i64 o.q.x, .int .i64 o.q.y, .int .i64 o.q.z] 49)]) (fun w => w.1 ≤ (fwMid o (Fw l i).sp k).length ∧ (w.2 = true ↔ fwP o (pq o k) ∨ ∃ i2, i2 < w.1 ∧ (fwMid o (Fw l i).sp k)[i2]? = some (fsp (pq o k)))) (fun w => (fwMid o (Fw l i).sp k).length - w.1) (0, b0) ⟨Nat.zero_le _, hb0.trans ⟨.inl, fun h => h.elim id fun ⟨_, h, _⟩ => absurd h (Nat.not_lt_zero _)⟩⟩ (by repeat' constructor) (Pk.drop (by repeat' constructor)) ?_
        rintro ⟨j, b⟩ ⟨hj, hb⟩
        dsimp only at *
        generalize hspk : fwMid o (Fw l i).sp k = sp at *
        refine SP.seq ?_
        refine SP.r2 ?_
        refine XL.m ?_
        refine XL.m ?_
        refine XL.know (Rm.know (A := SpS v1 sp) (by repeat' constructor) (fun _ hq => Sl'.len hq)) ?_
        rintro ⟨a9, c9, ev9, _⟩
        refine XL.len (a := a9) (m := sp.length) (c := c9) (show some v1 = _ by rw [ev9]) rfl ?_
        refine XL.lss_s rfl rfl rfl (fun hjl => ?_) (fun hjl => ?_)
        ·obtain ⟨x, hgs⟩ : ∃ x, sp[j]? = some x := ⟨_, List.getElem?_eq_getElem (show j < sp.length by omega)⟩
         refine XL.know (Rm.know (A := SpS v1 sp) (by repeat' constructor) (fun _ hq => Sl'.ptr hq (by omega))) ?_
         rintro ⟨b8, c8, rfl, _⟩
         refine XL.n2 ?_
         refine SP.t ?_
         refine SP.skip ?_
         refine Jp.then_normal ?_
         refine SP.seq ?_
         refine SP.block ?_
         refine SP.quiet Tryz.fol (by kernel_rfl) ?_
         rcases b with _ | _
         ·refine XL.m ?_
          refine XL.m ?_
          refine XL.g ?_
          refine XL.m ?_
          refine XL.g ?_
          refine XL.m ?_
          refine XL.g ?_
          refine XL.indexSl (r := j * 3) rfl rfl (by omega) (by omega) (by simp) rfl ?_
          refine XL.g ?_
          refine XL.loadA (hs := SbL.flat Pl.len hgs rfl) rfl rfl ?_
          refine XL.g ?_
          refine XL.lA ?_
          refine XL.g ?_
          refine XL.eqlT x (fsp (pq o k)) (by rfl) (by rfl) rfl (fun heq => ?_) (fun heq => ?_)
          ·refine XL.pick_f rfl rfl rfl ?_
           refine XL.a ?_
           refine XL.nilq_end ?_
           refine Jp.block_normal ?_
           refine Jp.then_normal ?_
           refine SP.region ?_
           refine XL.m ?_
           refine XL.add_i64 rfl rfl (by omega) (by omega) rfl ?_
           refine XL.a ?_
           refine XL.nil ?_
           refine Jp.rd (j + 1, true) ⟨by show j + 1 ≤ sp.length; omega, any_take hb hgs _ ⟨fun _ => .inr heq, fun _ => rfl⟩⟩ (by show sp.length - (j + 1) < sp.length - j; omega)
          ·refine XL.pick_f rfl rfl rfl ?_
           refine XL.a ?_
           refine XL.nilq_end ?_
           refine Jp.block_normal ?_
           refine Jp.then_normal ?_
           refine SP.region ?_
           refine XL.m ?_
           refine XL.add_i64 rfl rfl (by omega) (by omega) rfl ?_
           refine XL.a ?_
           refine XL.nil ?_
           refine Jp.rd (j + 1, false) ⟨by show j + 1 ≤ sp.length; omega, any_take hb hgs _ ⟨fun h => Bool.noConfusion h, fun h => h.elim (fun h => Bool.noConfusion h) (fun h => absurd h heq)⟩⟩ (by show sp.length - (j + 1) < sp.length - j; omega)
         ·refine XL.m ?_
          refine XL.m ?_
          refine XL.k ?_
          refine XL.k ?_
          refine XL.k ?_
          refine XL.k ?_
          refine XL.k ?_
          refine XL.k ?_
          refine XL.pick_t rfl rfl rfl ?_
          refine XL.a ?_
          refine XL.nilq_end ?_
          refine Jp.block_normal ?_
          refine Jp.then_normal ?_
          refine SP.region ?_
          refine XL.m ?_
          refine XL.add_i64 rfl rfl (by omega) (by omega) rfl ?_
          refine XL.a ?_
          refine XL.nil ?_
          refine Jp.rd (j + 1, true) ⟨by show j + 1 ≤ sp.length; omega, any_take hb hgs _ ⟨fun _ => .inl rfl, fun _ => rfl⟩⟩ (by show sp.length - (j + 1) < sp.length - j; omega)
        ·obtain rfl : j = sp.length := by omega
         have hin0 := any_all hb
         refine XL.n2 ?_
         refine SP.f ?_
         refine SP.exit ?_
         refine Jp.then_exit ?_
         refine Jp.then_exit ?_
         refine Jp.block_here ?_
         refine Jp.n4 ?_
         rcases b with _ | _
         ·have hin : ¬ (fwP o (pq o k) ∨ fsp (pq o k) ∈ sp) := fun h => Bool.noConfusion (hin0.2 h)
          refine XL.m ?_
          refine XL.not_f rfl rfl ?_
          refine XL.n2 ?_
          refine SP.t ?_
          refine SP.region ?_
          refine XL.m ?_
          refine XL.lA ?_
          refine XL.buildSlice (by rfl) (by rfl) (by rfl) (by decide) rfl (fun b9 => ?_)
          refine XL.append (k := 3) (z := [.int .i64 0, .int .i64 0, .int .i64 0]) (bt := 24) (xs := sp.flatMap Pl.cs) (ys := Pl.cs (fsp (pq o k))) (m := sp.length) (m2 := 1) rfl rfl ⟨_, Tryz.underlying28⟩ (by repeat' constructor) rfl rfl rfl (by omega) rfl rfl (fun v2 => ?_)
          rw [SpS_snoc v2 sp (fsp (pq o k))]
          refine XL.a ?_
          refine XL.nil ?_
          refine Jp.block_normal ?_
          refine Jp.then_normal ?_
          refine SP.region ?_
          refine XL.add_i64 rfl rfl (by omega) (by omega) rfl ?_
          refine XL.m ?_
          refine XL.nil ?_
          refine Jp.round (k + 1, v2) (by show k + 1 ≤ 2; omega) (by show 2 - (k + 1) < 2 - k; omega) (by repeat' constructor) (by show ∀ h, _ → star [SpS _ (fwMid o (Fw l i).sp (k + 1)), _, _, _] h; rw [fwMid_succ o (Fw l i).sp (show k < 2 by omega), hspk, fwAdd_f hin]; exact Pk.drop (by repeat' constructor))
         ·have hin := hin0.1 rfl
          refine XL.m ?_
          refine XL.not_t rfl rfl ?_
          refine XL.n2 ?_
          refine SP.f ?_
          refine SP.skip ?_
          refine Jp.block_normal ?_
          refine Jp.then_normal ?_
          refine SP.region ?_
          refine XL.add_i64 rfl rfl (by omega) (by omega) rfl ?_
          refine XL.m ?_
          refine XL.nil ?_
          refine Jp.round (k + 1, v1) (by show k + 1 ≤ 2; omega) (by show 2 - (k + 1) < 2 - k; omega) (by repeat' constructor) (by show ∀ h, _ → star [SpS _ (fwMid o (Fw l i).sp (k + 1)), _, _, _] h; rw [fwMid_succ o (Fw l i).sp (show k < 2 by omega), hspk, fwAdd_t hin]; exact Pk.drop (by repeat' constructor))
      ·refine XL.cp rfl (c15_f (pq o k) hmx) rfl ?_
       refine XL.m ?_
       refine XL.x ?_
       refine XL.x ?_
       refine XL.alloc (by rfl) (fun b7 => ?_)
       refine XL.sA ?_
       refine XL.a ?_
       refine XL.n4 ?_
       refine XL.f ?_
       refine XL.store (by rfl) (by rfl) (by rfl) ?_
       refine XL.n2 ?_
       refine SP.cut (X := Bool) (fun b => [(16, .bool b), (80, .int .i64 (k : Int)), (79, .int .i64 2), (78, .slice (some ⟨b5, 0, none⟩) 2 2), (5, v1), (13, .pointer (some ⟨b6, 0, none⟩)), (14, .pointer (some ⟨b7, 0, none⟩)), (6, .int .i64 (i : Int)), (0, .slice (some ⟨bI, oI, none⟩) l.length cl), (3, .int .i64 (fwN o (Fw l i).n)), (4, .int .i64 (fwT o (Fw l i).t)), (7, .pointer (some ⟨b1, 0, none⟩))]) (fun b => [SpS v1 (fwMid o (Fw l i).sp k), pt b7 (cel (fsp (pq o k)).cs 34), pt b6 (cel (pq o k).cs 49), pt b1 (cel o.cs 58), ptI bI csI TI fI, pt b5 (cel [.int .i64 o.p.x, .int .i64 o.p.y, .int .i64 o.p.z, .int .i64 o.q.x, .int .i64 o.q.y, .int .i64 o.q.z] 49)]) (fun b => (b = true ↔ fwP o (pq o k))) ?_ ?_
       ·refine SP.region ?_
        refine XL.m ?_
        refine XL.not_f rfl rfl ?_
        refine XL.m ?_
        refine XL.k ?_
        refine XL.k ?_
        refine XL.k ?_
        refine XL.k ?_
        refine XL.skipU rfl rfl rfl rfl ?_
        refine XL.skipU rfl rfl rfl rfl ?_
        refine XL.skipU rfl rfl rfl rfl ?_
        refine XL.skipU rfl rfl rfl rfl ?_
        refine XL.k ?_
        refine XL.pick_t rfl rfl rfl ?_
        refine XL.a ?_
        refine XL.nil ?_
        refine Jp.mt true ⟨fun _ => .inl hmx, fun _ => rfl⟩
       ·rintro b0 hb0
        refine SP.seq ?_
        refine SP.r2 ?_
        refine XL.a ?_
        refine XL.n2 ?_
        refine SP.block ?_
        refine SP.loop (X := Nat × Bool) (fun w => [(17, .int .i64 (w.1 : Int)), (16, .bool w.2), (80, .int .i64 (k : Int)), (79, .int .i64 2), (78, .slice (some ⟨b5, 0, none⟩) 2 2), (5, v1), (13, .pointer (some ⟨b6, 0, none⟩)), (14, .pointer (some ⟨b7, 0, none⟩)), (6, .int .i64 (i : Int)), (0, .slice (some ⟨bI, oI, none⟩) l.length cl), (3, .int .i64 (fwN o (Fw l i).n)), (4, .int .i64 (fwT o (Fw l i).t)), (7, .pointer (some ⟨b1, 0, none⟩))]) (fun w => [SpS v1 (fwMid o (Fw l i).sp k), pt b7 (cel (fsp (pq o k)).cs 34), pt b6 (cel (pq o k).cs 49), pt b1 (cel o.cs 58), ptI bI csI TI fI, pt b5 (cel [.int .i64 o.p.x, .int .i64 o.p.y, .int .i64 o.p.z, .int .i64 o.q.x, .int .i64 o.q.y, .int .i64 o.q.z] 49)]) (fun w => w.1 ≤ (fwMid o (Fw l i).sp k).length ∧ (w.2 = true ↔ fwP o (pq o k) ∨ ∃ i2, i2 < w.1 ∧ (fwMid o (Fw l i).sp k)[i2]? = some (fsp (pq o k)))) (fun w => (fwMid o (Fw l i).sp k).length - w.1) (0, b0) ⟨Nat.zero_le _, hb0.trans ⟨.inl, fun h => h.elim id fun ⟨_, h, _⟩ => absurd h (Nat.not_lt_zero _)⟩⟩ (by repeat' constructor) (Pk.drop (by repeat' constructor)) ?_
        rintro ⟨j, b⟩ ⟨hj, hb⟩
        dsimp only at *
        generalize hspk : fwMid o (Fw l i).sp k = sp at *
        refine SP.seq ?_
        refine SP.r2 ?_
        refine XL.m ?_
        refine XL.m ?_
        refine XL.know (Rm.know (A := SpS v1 sp) (by repeat' constructor) (fun _ hq => Sl'.len hq)) ?_
        rintro ⟨a9, c9, ev9, _⟩
        refine XL.len (a := a9) (m := sp.length) (c := c9) (show some v1 = _ by rw [ev9]) rfl ?_
        refine XL.lss_s rfl rfl rfl (fun hjl => ?_) (fun hjl => ?_)
        ·obtain ⟨x, hgs⟩ : ∃ x, sp[j]? = some x := ⟨_, List.getElem?_eq_getElem (show j < sp.length by omega)⟩
         refine XL.know (Rm.know (A := SpS v1 sp) (by repeat' constructor) (fun _ hq => Sl'.ptr hq (by omega))) ?_
         rintro ⟨b8, c8, rfl, _⟩
         refine XL.n2 ?_
         refine SP.t ?_
         refine SP.skip ?_
         refine Jp.then_normal ?_
         refine SP.seq ?_
         refine SP.block ?_
         refine SP.quiet Tryz.fol (by kernel_rfl) ?_
         rcases b with _ | _
         ·refine XL.m ?_
          refine XL.m ?_
          refine XL.g ?_
          refine XL.m ?_
          refine XL.g ?_
          refine XL.m ?_
          refine XL.g ?_
          refine XL.indexSl (r := j * 3) rfl rfl (by omega) (by omega) (by simp) rfl ?_
          refine XL.g ?_
          refine XL.loadA (hs := SbL.flat Pl.len hgs rfl) rfl rfl ?_
          refine XL.g ?_
          refine XL.lA ?_
          refine XL.g ?_
          refine XL.eqlT x (fsp (pq o k)) (by rfl) (by rfl) rfl (fun heq => ?_) (fun heq => ?_)
          ·refine XL.pick_f rfl rfl rfl ?_
           refine XL.a ?_
           refine XL.nilq_end ?_
           refine Jp.block_normal ?_
           refine Jp.then_normal ?_
           refine SP.region ?_
           refine XL.m ?_
           refine XL.add_i64 rfl rfl (by omega) (by omega) rfl ?_
           refine XL.a ?_
           refine XL.nil ?_
           refine Jp.rd (j + 1, true) ⟨by show j + 1 ≤ sp.length; omega, any_take hb hgs _ ⟨fun _ => .inr heq, fun _ => rfl⟩⟩ (by show sp.length - (j + 1) < sp.length - j; omega)
          ·refine XL.pick_f rfl rfl rfl ?_
           refine XL.a ?_
           refine XL.nilq_end ?_
           refine Jp.block_normal ?_
           refine Jp.then_normal ?_
           refine SP.region ?_
           refine XL.m ?_
           refine XL.add_i64 rfl rfl (by omega) (by omega) rfl ?_
           refine XL.a ?_
           refine XL.nil ?_
           refine Jp.rd (j + 1, false) ⟨by show j + 1 ≤ sp.length; omega, any_take hb hgs _ ⟨fun h => Bool.noConfusion h, fun h => h.elim (fun h => Bool.noConfusion h) (fun h => absurd h heq)⟩⟩ (by show sp.length - (j + 1) < sp.length - j; omega)
         ·refine XL.m ?_
          refine XL.m ?_
          refine XL.k ?_
          refine XL.k ?_
          refine XL.k ?_
          refine XL.k ?_
          refine XL.k ?_
          refine XL.k ?_
          refine XL.pick_t rfl rfl rfl ?_
          refine XL.a ?_
          refine XL.nilq_end ?_
          refine Jp.block_normal ?_
          refine Jp.then_normal ?_
          refine SP.region ?_
          refine XL.m ?_
          refine XL.add_i64 rfl rfl (by omega) (by omega) rfl ?_
          refine XL.a ?_
          refine XL.nil ?_
          refine Jp.rd (j + 1, true) ⟨by show j + 1 ≤ sp.length; omega, any_take hb hgs _ ⟨fun _ => .inl rfl, fun _ => rfl⟩⟩ (by show sp.length - (j + 1) < sp.length - j; omega)
        ·obtain rfl : j = sp.length := by omega
         have hin0 := any_all hb
         refine XL.n2 ?_
         refine SP.f ?_
         refine SP.exit ?_
         refine Jp.then_exit ?_
         refine Jp.then_exit ?_
         refine Jp.block_here ?_
         refine Jp.n4 ?_
         rcases b with _ | _
         ·have hin : ¬ (fwP o (pq o k) ∨ fsp (pq o k) ∈ sp) := fun h => Bool.noConfusion (hin0.2 h)
          refine XL.m ?_
          refine XL.not_f rfl rfl ?_
          refine XL.n2 ?_
          refine SP.t ?_
          refine SP.region ?_
          refine XL.m ?_
          refine XL.lA ?_
          refine XL.buildSlice (by rfl) (by rfl) (by rfl) (by decide) rfl (fun b9 => ?_)
          refine XL.append (k := 3) (z := [.int .i64 0, .int .i64 0, .int .i64 0]) (bt := 24) (xs := sp.flatMap Pl.cs) (ys := Pl.cs (fsp (pq o k))) (m := sp.length) (m2 := 1) rfl rfl ⟨_, Tryz.underlying28⟩ (by repeat' constructor) rfl rfl rfl (by omega) rfl rfl (fun v2 => ?_)
          rw [SpS_snoc v2 sp (fsp (pq o k))]
          refine XL.a ?_
          refine XL.nil ?_
          refine Jp.block_normal ?_
          refine Jp.then_normal ?_
          refine SP.region ?_
          refine XL.add_i64 rfl rfl (by omega) (by omega) rfl ?_
          refine XL.m ?_
          refine XL.nil ?_
          refine Jp.round (k + 1, v2) (by show k + 1 ≤ 2; omega) (by show 2 - (k + 1) < 2 - k; omega) (by repeat' constructor) (by show ∀ h, _ → star [SpS _ (fwMid o (Fw l i).sp (k + 1)), _, _, _] h; rw [fwMid_succ o (Fw l i).sp (show k < 2 by omega), hspk, fwAdd_f hin]; exact Pk.drop (by repeat' constructor))
         ·have hin := hin0.1 rfl
          refine XL.m ?_
          refine XL.not_t rfl rfl ?_
          refine XL.n2 ?_
          refine SP.f ?_
          refine SP.skip ?_
          refine Jp.block_normal ?_
          refine Jp.then_normal ?_
          refine SP.region ?_
          refine XL.add_i64 rfl rfl (by omega) (by omega) rfl ?_
          refine XL.m ?_
          refine XL.nil ?_
          refine Jp.round (k + 1, v1) (by show k + 1 ≤ 2; omega) (by show 2 - (k + 1) < 2 - k; omega) (by repeat' constructor) (by show ∀ h, _ → star [SpS _ (fwMid o (Fw l i).sp (k + 1)), _, _, _] h; rw [fwMid_succ o (Fw l i).sp (show k < 2 by omega), hspk, fwAdd_t hin]; exact Pk.drop (by repeat' constructor))
     ·obtain rfl : k = 2 := by omega
      refine XL.n5 ?_
      refine SP.f ?_
      refine SP.exit ?_
      refine Jp.then_exit ?_
      refine Jp.then_exit ?_
      refine Jp.block_here ?_
      refine Jp.block_normal ?_
      refine Jp.then_normal ?_
      refine SP.region ?_
      refine XL.m ?_
      refine XL.add_i64 rfl rfl (by omega) (by omega) rfl ?_
      refine XL.a ?_
      refine XL.nil ?_
      rw [show fwN o (Fw l i).n = (Fw l (i + 1)).n by rw [Fw_succ hgo]; rfl, show fwT o (Fw l i).t = (Fw l (i + 1)).t by rw [Fw_succ hgo]; rfl]
      rw [show fwMid o (Fw l i).sp 2 = (Fw l (i + 1)).sp by rw [Fw_succ hgo]; exact (if_pos hk123).symm]
      refine Jp.rd (i + 1, v1) ⟨by show i + 1 ≤ l.length; omega, by show FwB (Fw l (i + 1)) (i + 1); rw [Fw_succ hgo]; exact hB.step o⟩ (by show l.length - (i + 1) < l.length - i; omega)
 ·obtain rfl : i = l.length := by omega
  refine XL.n2 ?_
  refine SP.f ?_
  refine SP.exit ?_
  refine Jp.then_exit ?_
  refine Jp.then_exit ?_
  refine Jp.block_here ?_
  refine Jp.n4 ?_
  refine XL.m ?_
  refine XL.len (by rfl) (by rfl) ?_
  refine XL.leq_s rfl rfl rfl (fun f40 => ?_) (fun f40 => ?_)
  ·refine XL.m ?_
   refine XL.g ?_
   refine XL.m ?_
   refine XL.g ?_
   refine XL.leq_s rfl rfl rfl (fun f15 => ?_) (fun f15 => ?_)
   ·refine XL.pick_t rfl rfl rfl ?_
    refine XL.m ?_
    refine XL.g ?_
    refine XL.m ?_
    refine XL.g ?_
    refine XL.leq_s rfl rfl rfl (fun f60 => ?_) (fun f60 => ?_)
    ·refine XL.pick_t rfl rfl rfl ?_
     refine XL.m ?_
     refine XL.g ?_
     refine XL.m ?_
     refine XL.g ?_
     refine XL.know (Rm.know (A := SpS v (Fw l l.length).sp) (by repeat' constructor) (fun _ hq => Sl'.len hq)) ?_
     rintro ⟨a9, c9, ev9, _⟩
     refine XL.len (a := a9) (m := (Fw l l.length).sp.length) (c := c9) (show some v = _ by rw [ev9]) rfl ?_
     refine XL.g ?_
     refine XL.leq_s rfl rfl rfl (fun f8 => ?_) (fun f8 => ?_)
     ·refine XL.pick_t rfl rfl rfl ?_
      refine XL.a ?_
      refine XL.n2 ?_
      refine SP.ret ?_
      exact Jp.go (Pk.drop (Γ1 := [ptI bI csI TI fI]) (by repeat' constructor)) (Jp.end1 (.inr rfl) rfl rfl ⟨by unfold fewB; rw [decide_eq_true (by omega)], rfl⟩)
     ·refine XL.pick_t rfl rfl rfl ?_
      refine XL.a ?_
      refine XL.n2 ?_
      refine SP.ret ?_
      exact Jp.go (Pk.drop (Γ1 := [ptI bI csI TI fI]) (by repeat' constructor)) (Jp.end1 (.inr rfl) rfl rfl ⟨by unfold fewB; rw [decide_eq_false (by omega)], rfl⟩)
    ·refine XL.pick_t rfl rfl rfl ?_
     refine XL.m ?_
     refine XL.k ?_
     refine XL.k ?_
     refine XL.k ?_
     refine XL.pick_f rfl rfl rfl ?_
     refine XL.a ?_
     refine XL.n2 ?_
     refine SP.ret ?_
     exact Jp.go (Pk.drop (Γ1 := [ptI bI csI TI fI]) (by repeat' constructor)) (Jp.end1 (.inr rfl) rfl rfl ⟨by unfold fewB; rw [decide_eq_false (by omega)], rfl⟩)
   ·refine XL.pick_t rfl rfl rfl ?_
    refine XL.m ?_
    refine XL.k ?_
    refine XL.k ?_
    refine XL.pick_f rfl rfl rfl ?_
    refine XL.m ?_
    refine XL.k ?_
    refine XL.k ?_
    refine XL.k ?_
    refine XL.pick_f rfl rfl rfl ?_
    refine XL.a ?_
    refine XL.n2 ?_
    refine SP.ret ?_
    exact Jp.go (Pk.drop (Γ1 := [ptI bI csI TI fI]) (by repeat' constructor)) (Jp.end1 (.inr rfl) rfl rfl ⟨by unfold fewB; rw [decide_eq_false (by omega)], rfl⟩)
  ·refine XL.m ?_
   refine XL.k ?_
   refine XL.k ?_
   refine XL.pick_f rfl rfl rfl ?_
   refine XL.m ?_
   refine XL.k ?_
   refine XL.k ?_
   refine XL.pick_f rfl rfl rfl ?_
   refine XL.m ?_
   refine XL.k ?_
   refine XL.k ?_
   refine XL.k ?_
   refine XL.pick_f rfl rfl rfl ?_
   refine XL.a ?_
   refine XL.n2 ?_
   refine SP.ret ?_
   exact Jp.go (Pk.drop (Γ1 := [ptI bI csI TI fI]) (by repeat' constructor)) (Jp.end1 (.inr rfl) rfl rfl ⟨by unfold fewB; rw [decide_eq_false (by omega)], rfl⟩)
theorem c5n (a0 : Option Addr) (cl : Nat) (l : List OpR) (hn : l.length ≤ 2000000000000) (hl0 : l = []) : Tri Tryz.prog 5 [.slice a0 l.length cl] [tt] (fun r Γ' => r = .bool (fewB l) ∧ Γ' = [tt]) := by
 refine Pcalls (n := 141) Tryz.func5 rfl rfl rfl fun W0 H0 => ?_
 have hl1 : l.length = 0 := by rw [hl0]; rfl
 refine SP.r2 ?_
 refine XL.a ?_
 refine XL.n4 ?_
 refine XL.a ?_
 refine XL.a ?_
 refine XL.n4 ?_
 refine XL.a ?_
 refine XL.n5 ?_
 refine SP.r2 ?_
 refine XL.a ?_
 refine XL.n2 ?_
 refine SP.block ?_
 refine SP.gam (star_nilS (E := 34) (k := 3)) ?_
 refine SP.loop (X := Nat × Value) (fun w => [(6, .int .i64 (w.1 : Int)), (3, .int .i64 (Fw l w.1).n), (4, .int .i64 (Fw l w.1).t), (5, w.2), (0, .slice a0 l.length cl)]) (fun w => [tt, SpS w.2 (Fw l w.1).sp]) (fun w => w.1 ≤ l.length ∧ FwB (Fw l w.1) w.1) (fun w => l.length - w.1) (0, .slice none 0 0) ⟨Nat.zero_le _, ⟨⟨Int.le_refl _, Int.le_refl _⟩, ⟨Int.le_refl _, Int.le_refl _⟩, Nat.le_refl _⟩⟩ (by repeat' constructor) (Pk.drop (by repeat' constructor)) ?_
 rintro ⟨i, v⟩ ⟨hi, hB⟩
 dsimp only at *
 have hbn := hB.n
 have hbt := hB.t
 have hbs := hB.sp
 refine SP.seq ?_
 refine SP.r2 ?_
 refine XL.m ?_
 refine XL.m ?_
 refine XL.len (by rfl) (by rfl) ?_
 refine XL.lss_s rfl rfl rfl (fun hc => ?_) (fun hc => ?_)
 ·exfalso; omega
 ·obtain rfl : i = l.length := by omega
  refine XL.n2 ?_
  refine SP.f ?_
  refine SP.exit ?_
  refine Jp.then_exit ?_
  refine Jp.then_exit ?_
  refine Jp.block_here ?_
  refine Jp.n4 ?_
  refine XL.m ?_
  refine XL.len (by rfl) (by rfl) ?_
  refine XL.leq_s rfl rfl rfl (fun f40 => ?_) (fun f40 => ?_)
  ·refine XL.m ?_
   refine XL.g ?_
   refine XL.m ?_
   refine XL.g ?_
   refine XL.leq_s rfl rfl rfl (fun f15 => ?_) (fun f15 => ?_)
   ·refine XL.pick_t rfl rfl rfl ?_
    refine XL.m ?_
    refine XL.g ?_
    refine XL.m ?_
    refine XL.g ?_
    refine XL.leq_s rfl rfl rfl (fun f60 => ?_) (fun f60 => ?_)
    ·refine XL.pick_t rfl rfl rfl ?_
     refine XL.m ?_
     refine XL.g ?_
     refine XL.m ?_
     refine XL.g ?_
     refine XL.know (Rm.know (A := SpS v (Fw l l.length).sp) (by repeat' constructor) (fun _ hq => Sl'.len hq)) ?_
     rintro ⟨a9, c9, ev9, _⟩
     refine XL.len (a := a9) (m := (Fw l l.length).sp.length) (c := c9) (show some v = _ by rw [ev9]) rfl ?_
     refine XL.g ?_
     refine XL.leq_s rfl rfl rfl (fun f8 => ?_) (fun f8 => ?_)
     ·refine XL.pick_t rfl rfl rfl ?_
      refine XL.a ?_
      refine XL.n2 ?_
      refine SP.ret ?_
      exact Jp.go (Pk.drop (Γ1 := [tt]) (by repeat' constructor)) (Jp.end1 (.inr rfl) rfl rfl ⟨by unfold fewB; rw [decide_eq_true (by omega)], rfl⟩)
     ·refine XL.pick_t rfl rfl rfl ?_
      refine XL.a ?_
      refine XL.n2 ?_
      refine SP.ret ?_
      exact Jp.go (Pk.drop (Γ1 := [tt]) (by repeat' constructor)) (Jp.end1 (.inr rfl) rfl rfl ⟨by unfold fewB; rw [decide_eq_false (by omega)], rfl⟩)
    ·refine XL.pick_t rfl rfl rfl ?_
     refine XL.m ?_
     refine XL.k ?_
     refine XL.k ?_
     refine XL.k ?_
     refine XL.pick_f rfl rfl rfl ?_
     refine XL.a ?_
     refine XL.n2 ?_
     refine SP.ret ?_
     exact Jp.go (Pk.drop (Γ1 := [tt]) (by repeat' constructor)) (Jp.end1 (.inr rfl) rfl rfl ⟨by unfold fewB; rw [decide_eq_false (by omega)], rfl⟩)
   ·refine XL.pick_t rfl rfl rfl ?_
    refine XL.m ?_
    refine XL.k ?_
    refine XL.k ?_
    refine XL.pick_f rfl rfl rfl ?_
    refine XL.m ?_
    refine XL.k ?_
    refine XL.k ?_
    refine XL.k ?_
    refine XL.pick_f rfl rfl rfl ?_
    refine XL.a ?_
    refine XL.n2 ?_
    refine SP.ret ?_
    exact Jp.go (Pk.drop (Γ1 := [tt]) (by repeat' constructor)) (Jp.end1 (.inr rfl) rfl rfl ⟨by unfold fewB; rw [decide_eq_false (by omega)], rfl⟩)
  ·refine XL.m ?_
   refine XL.k ?_
   refine XL.k ?_
   refine XL.pick_f rfl rfl rfl ?_
   refine XL.m ?_
   refine XL.k ?_
   refine XL.k ?_
   refine XL.pick_f rfl rfl rfl ?_
   refine XL.m ?_
   refine XL.k ?_
   refine XL.k ?_
   refine XL.k ?_
   refine XL.pick_f rfl rfl rfl ?_
   refine XL.a ?_
   refine XL.n2 ?_
   refine SP.ret ?_
   exact Jp.go (Pk.drop (Γ1 := [tt]) (by repeat' constructor)) (Jp.end1 (.inr rfl) rfl rfl ⟨by unfold fewB; rw [decide_eq_false (by omega)], rfl⟩)
end Go.Proofs

namespace Go.Proofs
open Go.Bk
theorem F_New (seed : Int) : Tri Tryz.prog 12 [.int .u64 seed] [] (fun v Γ' => ∃ m r : Nat, v = mp m ∧ Γ' = [Mb m r (st0 seed), FieldR r fld0]) :=
 Tri.conseq (c12 seed) fun v Γ' ⟨m, r, h1, h2⟩ => ⟨_, ⟨m, r, h1, rfl⟩, fun h s => by subst h2; exact field0 h s⟩
theorem StL.wholeS {cs vs : List Value} (h : vs.length = cs.length) : StL cs 0 vs vs := ⟨by omega, by simp [h]⟩
def opSet (p : Pl) (k : Int) : OpR := ⟨1, p, ⟨0, 0, 0⟩, ⟨k, 0⟩, 0⟩
def opLook (p : Pl) : OpR := ⟨7, p, ⟨0, 0, 0⟩, ⟨0, 0⟩, 0⟩
theorem c18 (x y z : Int) : Pur Tryz.prog 18 [.int .i64 x, .int .i64 y, .int .i64 z] (plv ⟨x, y, z⟩) := by
 refine Pcalls (n := 11) Tryz.func18 rfl rfl rfl fun W0 H0 => ?_
 refine SP.r2 ?_
 refine XL.alloc (by rfl) (fun b1 => ?_)
 refine XL.n4 ?_
 refine XL.m ?_
 refine XL.m ?_
 refine XL.m ?_
 refine XL.build (by rfl) (by rfl) ?_
 refine XL.sA ?_
 refine XL.n2 ?_
 refine SP.ret ?_
 refine Jp.purc (.inr rfl) rfl (Res.cellA (by rfl)) rfl
theorem c17 (p : Pl) (k : Int) : Pur Tryz.prog 17 [plv p, .int .u8 k] (.agg (opSet p k).cs.toArray) := by
 refine Pcalls (n := 9) Tryz.func17 rfl rfl rfl fun W0 H0 => ?_
 refine SP.r2 ?_
 refine XL.boxA rfl rfl (fun b1 => ?_)
 refine XL.alloc (by rfl) (fun b2 => ?_)
 refine XL.n4 ?_
 refine XL.lA ?_
 refine XL.m ?_
 refine XL.build (by rfl) (by rfl) ?_
 refine XL.build (by rfl) (by rfl) ?_
 refine XL.sA ?_
 refine XL.n2 ?_
 refine SP.ret ?_
 refine Jp.purc (.inr rfl) rfl (Res.cellA (by rfl)) rfl
theorem c19 (p : Pl) : Pur Tryz.prog 19 [plv p] (.agg (opLook p).cs.toArray) := by
 refine Pcalls (n := 5) Tryz.func19 rfl rfl rfl fun W0 H0 => ?_
 refine SP.r2 ?_
 refine XL.boxA rfl rfl (fun b1 => ?_)
 refine XL.alloc (by rfl) (fun b2 => ?_)
 refine XL.n4 ?_
 refine XL.lA ?_
 refine XL.build (by rfl) (by rfl) ?_
 refine XL.sA ?_
 refine XL.n2 ?_
 refine SP.ret ?_
 refine Jp.purc (.inr rfl) rfl (Res.cellA (by rfl)) rfl
theorem c16 (m r : Nat) (s : St) (g : Fld) (hF : FillC) (hs : StOk s) (o : OpR) (hc : C2.rng o.c) : Tri Tryz.prog 16 [mp m, .agg o.cs.toArray] [Mb m r s, FieldR r g] (fun v Γ' => ∃ (s' : St) (g' : Fld) (an : List Value), an[0]? = some v ∧ DoOk o s g s' g' an ∧ Γ' = [Mb m r s', FieldR r g']) := by
 refine Pcalls (n := 14) Tryz.func16 rfl rfl rfl fun W0 H0 => ?_
 refine SP.r2 ?_
 refine XL.boxA rfl rfl (fun b1 => ?_)
 refine XL.a ?_
 refine XL.n2 ?_
 refine SP.cut (X := ((St × Fld) × List Value) × Nat) (fun w => [(5, .pointer (some ⟨w.2, 0, none⟩))]) (fun w => [pt w.2 (cel w.1.2 55), Mb m r w.1.1.1, FieldR r w.1.1.2]) (fun w => DoOk o s g w.1.1.1 w.1.1.2 w.1.2) ?_ ?_
 ·refine SP.any (m := 8) Tryz.fol rfl ?_
  refine XA.tk (i := 0) rfl rfl rfl (fun _ _ _ => XL.move rfl rfl) ?_
  refine XA.tk (i := 2) rfl rfl rfl (fun _ _ _ => XL.move rfl rfl) ?_
  refine XA.many [1, 3, 4, 6] (by kernel_rfl) rfl ?_
  refine XO.cons (i := 1) rfl rfl ?_ ?_
  ·refine XL.makeIface rfl Tryz.underlying24 rfl rfl ?_
   refine XL.on ?_
   refine XA.many [3, 4, 6] (by kernel_rfl) rfl ?_
   refine XO.cons (i := 3) rfl rfl ?_ ?_
   ·refine XL.cr rfl (c11 m r s) (by repeat' constructor) rfl ?_
    refine XL.on ?_
    refine XA.two (i := 4) (j := 6) rfl rfl (by kernel_rfl) rfl rfl ?_ ?_
    ·refine XL.lA ?_
     refine XL.on ?_
     refine XA.two (i := 5) (j := 6) rfl rfl (by kernel_rfl) rfl rfl ?_ ?_
     ·refine XL.cw rfl (c13 m r s g hF hs o hc) (by repeat' constructor) rfl ?_
      rintro _ _ ⟨s1, g1, an, rfl, hD, rfl⟩
      refine XL.app2 ?_
      refine XL.on ?_
      refine XA.o 6 ?_
      refine XL.alloc (by rfl) (fun b2 => ?_)
      refine XL.on ?_
      refine XA.o 7 ?_
      refine XL.storeA (vs := an) (hs := StL.wholeS (by rw [hD.len]; rfl)) rfl rfl hD.len hD.sca ?_
      refine XL.on ?_
      refine XA.done (by kernel_rfl) ?_
      refine Jp.mt (((s1, g1), an), b2) hD
     ·refine XL.alloc (by rfl) (fun b2 => ?_)
      refine XL.on ?_
      refine XA.o 5 ?_
      refine XL.cw rfl (c13 m r s g hF hs o hc) (by repeat' constructor) rfl ?_
      rintro _ _ ⟨s1, g1, an, rfl, hD, rfl⟩
      refine XL.app2 ?_
      refine XL.on ?_
      refine XA.o 7 ?_
      refine XL.storeA (vs := an) (hs := StL.wholeS (by rw [hD.len]; rfl)) rfl rfl hD.len hD.sca ?_
      refine XL.on ?_
      refine XA.done (by kernel_rfl) ?_
      refine Jp.mt (((s1, g1), an), b2) hD
    ·refine XL.alloc (by rfl) (fun b2 => ?_)
     refine XL.on ?_
     refine XA.o 4 ?_
     refine XL.lA ?_
     refine XL.on ?_
     refine XA.o 5 ?_
     refine XL.cw rfl (c13 m r s g hF hs o hc) (by repeat' constructor) rfl ?_
     rintro _ _ ⟨s1, g1, an, rfl, hD, rfl⟩
     refine XL.app2 ?_
     refine XL.on ?_
     refine XA.o 7 ?_
     refine XL.storeA (vs := an) (hs := StL.wholeS (by rw [hD.len]; rfl)) rfl rfl hD.len hD.sca ?_
     refine XL.on ?_
     refine XA.done (by kernel_rfl) ?_
     refine Jp.mt (((s1, g1), an), b2) hD
   refine XO.cons (i := 4) rfl rfl ?_ ?_
   ·refine XL.lA ?_
    refine XL.on ?_
    refine XA.two (i := 3) (j := 6) rfl rfl (by kernel_rfl) rfl rfl ?_ ?_
    ·refine XL.cr rfl (c11 m r s) (by repeat' constructor) rfl ?_
     refine XL.on ?_
     refine XA.two (i := 5) (j := 6) rfl rfl (by kernel_rfl) rfl rfl ?_ ?_
     ·refine XL.cw rfl (c13 m r s g hF hs o hc) (by repeat' constructor) rfl ?_
      rintro _ _ ⟨s1, g1, an, rfl, hD, rfl⟩
      refine XL.app2 ?_
      refine XL.on ?_
      refine XA.o 6 ?_
      refine XL.alloc (by rfl) (fun b2 => ?_)
      refine XL.on ?_
      refine XA.o 7 ?_
      refine XL.storeA (vs := an) (hs := StL.wholeS (by rw [hD.len]; rfl)) rfl rfl hD.len hD.sca ?_
      refine XL.on ?_
      refine XA.done (by kernel_rfl) ?_
      refine Jp.mt (((s1, g1), an), b2) hD
     ·refine XL.alloc (by rfl) (fun b2 => ?_)
      refine XL.on ?_
      refine XA.o 5 ?_
      refine XL.cw rfl (c13 m r s g hF hs o hc) (by repeat' constructor) rfl ?_
      rintro _ _ ⟨s1, g1, an, rfl, hD, rfl⟩
      refine XL.app2 ?_
      refine XL.on ?_
      refine XA.o 7 ?_
      refine XL.storeA (vs := an) (hs := StL.wholeS (by rw [hD.len]; rfl)) rfl rfl hD.len hD.sca ?_
      refine XL.on ?_
      refine XA.done (by kernel_rfl) ?_
      refine Jp.mt (((s1, g1), an), b2) hD
    ·refine XL.alloc (by rfl) (fun b2 => ?_)
     refine XL.on ?_
     refine XA.o 3 ?_
     refine XL.cr rfl (c11 m r s) (by repeat' constructor) rfl ?_
     refine XL.on ?_
     refine XA.o 5 ?_
     refine XL.cw rfl (c13 m r s g hF hs o hc) (by repeat' constructor) rfl ?_
     rintro _ _ ⟨s1, g1, an, rfl, hD, rfl⟩
     refine XL.app2 ?_
     refine XL.on ?_
     refine XA.o 7 ?_
     refine XL.storeA (vs := an) (hs := StL.wholeS (by rw [hD.len]; rfl)) rfl rfl hD.len hD.sca ?_
     refine XL.on ?_
     refine XA.done (by kernel_rfl) ?_
     refine Jp.mt (((s1, g1), an), b2) hD
   refine XO.cons (i := 6) rfl rfl ?_ ?_
   ·refine XL.alloc (by rfl) (fun b2 => ?_)
    refine XL.on ?_
    refine XA.two (i := 3) (j := 4) rfl rfl (by kernel_rfl) rfl rfl ?_ ?_
    ·refine XL.cr rfl (c11 m r s) (by repeat' constructor) rfl ?_
     refine XL.on ?_
     refine XA.o 4 ?_
     refine XL.lA ?_
     refine XL.on ?_
     refine XA.o 5 ?_
     refine XL.cw rfl (c13 m r s g hF hs o hc) (by repeat' constructor) rfl ?_
     rintro _ _ ⟨s1, g1, an, rfl, hD, rfl⟩
     refine XL.app2 ?_
     refine XL.on ?_
     refine XA.o 7 ?_
     refine XL.storeA (vs := an) (hs := StL.wholeS (by rw [hD.len]; rfl)) rfl rfl hD.len hD.sca ?_
     refine XL.on ?_
     refine XA.done (by kernel_rfl) ?_
     refine Jp.mt (((s1, g1), an), b2) hD
    ·refine XL.lA ?_
     refine XL.on ?_
     refine XA.o 3 ?_
     refine XL.cr rfl (c11 m r s) (by repeat' constructor) rfl ?_
     refine XL.on ?_
     refine XA.o 5 ?_
     refine XL.cw rfl (c13 m r s g hF hs o hc) (by repeat' constructor) rfl ?_
     rintro _ _ ⟨s1, g1, an, rfl, hD, rfl⟩
     refine XL.app2 ?_
     refine XL.on ?_
     refine XA.o 7 ?_
     refine XL.storeA (vs := an) (hs := StL.wholeS (by rw [hD.len]; rfl)) rfl rfl hD.len hD.sca ?_
     refine XL.on ?_
     refine XA.done (by kernel_rfl) ?_
     refine Jp.mt (((s1, g1), an), b2) hD
   exact XO.nil
  refine XO.cons (i := 3) rfl rfl ?_ ?_
  ·refine XL.cr rfl (c11 m r s) (by repeat' constructor) rfl ?_
   refine XL.on ?_
   refine XA.many [1, 4, 6] (by kernel_rfl) rfl ?_
   refine XO.cons (i := 1) rfl rfl ?_ ?_
   ·refine XL.makeIface rfl Tryz.underlying24 rfl rfl ?_
    refine XL.on ?_
    refine XA.two (i := 4) (j := 6) rfl rfl (by kernel_rfl) rfl rfl ?_ ?_
    ·refine XL.lA ?_
     refine XL.on ?_
     refine XA.two (i := 5) (j := 6) rfl rfl (by kernel_rfl) rfl rfl ?_ ?_
     ·refine XL.cw rfl (c13 m r s g hF hs o hc) (by repeat' constructor) rfl ?_
      rintro _ _ ⟨s1, g1, an, rfl, hD, rfl⟩
      refine XL.app2 ?_
      refine XL.on ?_
      refine XA.o 6 ?_
      refine XL.alloc (by rfl) (fun b2 => ?_)
      refine XL.on ?_
      refine XA.o 7 ?_
      refine XL.storeA (vs := an) (hs := StL.wholeS (by rw [hD.len]; rfl)) rfl rfl hD.len hD.sca ?_
      refine XL.on ?_
      refine XA.done (by kernel_rfl) ?_
      refine Jp.mt (((s1, g1), an), b2) hD
     ·refine XL.alloc (by rfl) (fun b2 => ?_)
      refine XL.on ?_
      refine XA.o 5 ?_
      refine XL.cw rfl (c13 m r s g hF hs o hc) (by repeat' constructor) rfl ?_
      rintro _ _ ⟨s1, g1, an, rfl, hD, rfl⟩
      refine XL.app2 ?_
      refine XL.on ?_
      refine XA.o 7 ?_
      refine XL.storeA (vs := an) (hs := StL.wholeS (by rw [hD.len]; rfl)) rfl rfl hD.len hD.sca ?_
      refine XL.on ?_
      refine XA.done (by kernel_rfl) ?_
      refine Jp.mt (((s1, g1), an), b2) hD
    ·refine XL.alloc (by rfl) (fun b2 => ?_)
     refine XL.on ?_
     refine XA.o 4 ?_
     refine XL.lA ?_
     refine XL.on ?_
     refine XA.o 5 ?_
     refine XL.cw rfl (c13 m r s g hF hs o hc) (by repeat' constructor) rfl ?_
     rintro _ _ ⟨s1, g1, an, rfl, hD, rfl⟩
     refine XL.app2 ?_
     refine XL.on ?_
     refine XA.o 7 ?_
     refine XL.storeA (vs := an) (hs := StL.wholeS (by rw [hD.len]; rfl)) rfl rfl hD.len hD.sca ?_
     refine XL.on ?_
     refine XA.done (by kernel_rfl) ?_
     refine Jp.mt (((s1, g1), an), b2) hD
   refine XO.cons (i := 4) rfl rfl ?_ ?_
   ·refine XL.lA ?_
    refine XL.on ?_
    refine XA.two (i := 1) (j := 6) rfl rfl (by kernel_rfl) rfl rfl ?_ ?_
    ·refine XL.makeIface rfl Tryz.underlying24 rfl rfl ?_
     refine XL.on ?_
     refine XA.two (i := 5) (j := 6) rfl rfl (by kernel_rfl) rfl rfl ?_ ?_
     ·refine XL.cw rfl (c13 m r s g hF hs o hc) (by repeat' constructor) rfl ?_
      rintro _ _ ⟨s1, g1, an, rfl, hD, rfl⟩
      refine XL.app2 ?_
      refine XL.on ?_
      refine XA.o 6 ?_
      refine XL.alloc (by rfl) (fun b2 => ?_)
      refine XL.on ?_
      refine XA.o 7 ?_
      refine XL.storeA (vs := an) (hs := StL.wholeS (by rw [hD.len]; rfl)) rfl rfl hD.len hD.sca ?_
      refine XL.on ?_
      refine XA.done (by kernel_rfl) ?_
      refine Jp.mt (((s1, g1), an), b2) hD
     ·refine XL.alloc (by rfl) (fun b2 => ?_)
      refine XL.on ?_
      refine XA.o 5 ?_
      refine XL.cw rfl (c13 m r s g hF hs o hc) (by repeat' constructor) rfl ?_
      rintro _ _ ⟨s1, g1, an, rfl, hD, rfl⟩
      refine XL.app2 ?_
      refine XL.on ?_
      refine XA.o 7 ?_
      refine XL.storeA (vs := an) (hs := StL.wholeS (by rw [hD.len]; rfl)) rfl rfl hD.len hD.sca ?_
      refine XL.on ?_
      refine XA.done (by kernel_rfl) ?_
      refine Jp.mt (((s1, g1), an), b2) hD
    ·refine XL.alloc (by rfl) (fun b2 => ?_)
     refine XL.on ?_
     refine XA.o 1 ?_
     refine XL.makeIface rfl Tryz.underlying24 rfl rfl ?_
     refine XL.on ?_
     refine XA.o 5 ?_
     refine XL.cw rfl (c13 m r s g hF hs o hc) (by repeat' constructor) rfl ?_
     rintro _ _ ⟨s1, g1, an, rfl, hD, rfl⟩
     refine XL.app2 ?_
     refine XL.on ?_
     refine XA.o 7 ?_
     refine XL.storeA (vs := an) (hs := StL.wholeS (by rw [hD.len]; rfl)) rfl rfl hD.len hD.sca ?_
     refine XL.on ?_
     refine XA.done (by kernel_rfl) ?_
     refine Jp.mt (((s1, g1), an), b2) hD
   refine XO.cons (i := 6) rfl rfl ?_ ?_
   ·refine XL.alloc (by rfl) (fun b2 => ?_)
    refine XL.on ?_
    refine XA.two (i := 1) (j := 4) rfl rfl (by kernel_rfl) rfl rfl ?_ ?_
    ·refine XL.makeIface rfl Tryz.underlying24 rfl rfl ?_
     refine XL.on ?_
     refine XA.o 4 ?_
     refine XL.lA ?_
     refine XL.on ?_
     refine XA.o 5 ?_
     refine XL.cw rfl (c13 m r s g hF hs o hc) (by repeat' constructor) rfl ?_
     rintro _ _ ⟨s1, g1, an, rfl, hD, rfl⟩
     refine XL.app2 ?_
     refine XL.on ?_
     refine XA.o 7 ?_
     refine XL.storeA (vs := an) (hs := StL.wholeS (by rw [hD.len]; rfl)) rfl rfl hD.len hD.sca ?_
     refine XL.on ?_
     refine XA.done (by kernel_rfl) ?_
     refine Jp.mt (((s1, g1), an), b2) hD
    ·refine XL.lA ?_
     refine XL.on ?_
     refine XA.o 1 ?_
     refine XL.makeIface rfl Tryz.underlying24 rfl rfl ?_
     refine XL.on ?_
     refine XA.o 5 ?_
     refine XL.cw rfl (c13 m r s g hF hs o hc) (by repeat' constructor) rfl ?_
     rintro _ _ ⟨s1, g1, an, rfl, hD, rfl⟩
     refine XL.app2 ?_
     refine XL.on ?_
     refine XA.o 7 ?_
     refine XL.storeA (vs := an) (hs := StL.wholeS (by rw [hD.len]; rfl)) rfl rfl hD.len hD.sca ?_
     refine XL.on ?_
     refine XA.done (by kernel_rfl) ?_
     refine Jp.mt (((s1, g1), an), b2) hD
   exact XO.nil
  refine XO.cons (i := 4) rfl rfl ?_ ?_
  ·refine XL.lA ?_
   refine XL.on ?_
   refine XA.many [1, 3, 6] (by kernel_rfl) rfl ?_
   refine XO.cons (i := 1) rfl rfl ?_ ?_
   ·refine XL.makeIface rfl Tryz.underlying24 rfl rfl ?_
    refine XL.on ?_
    refine XA.two (i := 3) (j := 6) rfl rfl (by kernel_rfl) rfl rfl ?_ ?_
    ·refine XL.cr rfl (c11 m r s) (by repeat' constructor) rfl ?_
     refine XL.on ?_
     refine XA.two (i := 5) (j := 6) rfl rfl (by kernel_rfl) rfl rfl ?_ ?_
     ·refine XL.cw rfl (c13 m r s g hF hs o hc) (by repeat' constructor) rfl ?_
      rintro _ _ ⟨s1, g1, an, rfl, hD, rfl⟩
      refine XL.app2 ?_
      refine XL.on ?_
      refine XA.o 6 ?_
      refine XL.alloc (by rfl) (fun b2 => ?_)
      refine XL.on ?_
      refine XA.o 7 ?_
      refine XL.storeA (vs := an) (hs := StL.wholeS (by rw [hD.len]; rfl)) rfl rfl hD.len hD.sca ?_
      refine XL.on ?_
      refine XA.done (by kernel_rfl) ?_
      refine Jp.mt (((s1, g1), an), b2) hD
     ·refine XL.alloc (by rfl) (fun b2 => ?_)
      refine XL.on ?_
      refine XA.o 5 ?_
      refine XL.cw rfl (c13 m r s g hF hs o hc) (by repeat' constructor) rfl ?_
      rintro _ _ ⟨s1, g1, an, rfl, hD, rfl⟩
      refine XL.app2 ?_
      refine XL.on ?_
      refine XA.o 7 ?_
      refine XL.storeA (vs := an) (hs := StL.wholeS (by rw [hD.len]; rfl)) rfl rfl hD.len hD.sca ?_
      refine XL.on ?_
      refine XA.done (by kernel_rfl) ?_
      refine Jp.mt (((s1, g1), an), b2) hD
    ·refine XL.alloc (by rfl) (fun b2 => ?_)
     refine XL.on ?_
     refine XA.o 3 ?_
     refine XL.cr rfl (c11 m r s) (by repeat' constructor) rfl ?_
     refine XL.on ?_
     refine XA.o 5 ?_
     refine XL.cw rfl (c13 m r s g hF hs o hc) (by repeat' constructor) rfl ?_
     rintro _ _ ⟨s1, g1, an, rfl, hD, rfl⟩
     refine XL.app2 ?_
     refine XL.on ?_
     refine XA.o 7 ?_
     refine XL.storeA (vs := an) (hs := StL.wholeS (by rw [hD.len]; rfl)) rfl rfl hD.len hD.sca ?_
     refine XL.on ?_
     refine XA.done (by kernel_rfl) ?_
     refine Jp.mt (((s1, g1), an), b2) hD
   refine XO.cons (i := 3) rfl rfl ?_ ?_
   ·refine XL.cr rfl (c11 m r s) (by repeat' constructor) rfl ?_
    refine XL.on ?_
    refine XA.two (i := 1) (j := 6) rfl rfl (by kernel_rfl) rfl rfl ?_ ?_
    ·refine XL.makeIface rfl Tryz.underlying24 rfl rfl ?_
     refine XL.on ?_
     refine XA.two (i := 5) (j := 6) rfl rfl (by kernel_rfl) rfl rfl ?_ ?_
     ·refine XL.cw rfl (c13 m r s g hF hs o hc) (by repeat' constructor) rfl ?_
      rintro _ _ ⟨s1, g1, an, rfl, hD, rfl⟩
      refine XL.app2 ?_
      refine XL.on ?_
      refine XA.o 6 ?_
      refine XL.alloc (by rfl) (fun b2 => ?_)
      refine XL.on ?_
      refine XA.o 7 ?_
      refine XL.storeA (vs := an) (hs := StL.wholeS (by rw [hD.len]; rfl)) rfl rfl hD.len hD.sca ?_
      refine XL.on ?_
      refine XA.done (by kernel_rfl) ?_
      refine Jp.mt (((s1, g1), an), b2) hD
     ·refine XL.alloc (by rfl) (fun b2 => ?_)
      refine XL.on ?_
      refine XA.o 5 ?_
      refine XL.cw rfl (c13 m r s g hF hs o hc) (by repeat' constructor) rfl ?_
      rintro _ _ ⟨s1, g1, an, rfl, hD, rfl⟩
      refine XL.app2 ?_
      refine XL.on ?_
      refine XA.o 7 ?_
      refine XL.storeA (vs := an) (hs := StL.wholeS (by rw [hD.len]; rfl)) rfl rfl hD.len hD.sca ?_
      refine XL.on ?_
      refine XA.done (by kernel_rfl) ?_
      refine Jp.mt (((s1, g1), an), b2) hD
    ·refine XL.alloc (by rfl) (fun b2 => ?_)
     refine XL.on ?_
     refine XA.o 1 ?_
     refine XL.makeIface rfl Tryz.underlying24 rfl rfl ?_
     refine XL.on ?_
     refine XA.o 5 ?_
     refine XL.cw rfl (c13 m r s g hF hs o hc) (by repeat' constructor) rfl ?_
     rintro _ _ ⟨s1, g1, an, rfl, hD, rfl⟩
     refine XL.app2 ?_
     refine XL.on ?_
     refine XA.o 7 ?_
     refine XL.storeA (vs := an) (hs := StL.wholeS (by rw [hD.len]; rfl)) rfl rfl hD.len hD.sca ?_
     refine XL.on ?_
     refine XA.done (by kernel_rfl) ?_
     refine Jp.mt (((s1, g1), an), b2) hD
   refine XO.cons (i := 6) rfl rfl ?_ ?_
   ·refine XL.alloc (by rfl) (fun b2 => ?_)
    refine XL.on ?_
    refine XA.two (i := 1) (j := 3) rfl rfl (by kernel_rfl) rfl rfl ?_ ?_
    ·refine XL.makeIface rfl Tryz.underlying24 rfl rfl ?_
     refine XL.on ?_
     refine XA.o 3 ?_
     refine XL.cr rfl (c11 m r s) (by repeat' constructor) rfl ?_
     refine XL.on ?_
     refine XA.o 5 ?_
     refine XL.cw rfl (c13 m r s g hF hs o hc) (by repeat' constructor) rfl ?_
     rintro _ _ ⟨s1, g1, an, rfl, hD, rfl⟩
     refine XL.app2 ?_
     refine XL.on ?_
     refine XA.o 7 ?_
     refine XL.storeA (vs := an) (hs := StL.wholeS (by rw [hD.len]; rfl)) rfl rfl hD.len hD.sca ?_
     refine XL.on ?_
     refine XA.done (by kernel_rfl) ?_
     refine Jp.mt (((s1, g1), an), b2) hD
    ·refine XL.cr rfl (c11 m r s) (by repeat' constructor) rfl ?_
     refine XL.on ?_
     refine XA.o 1 ?_
     refine XL.makeIface rfl Tryz.underlying24 rfl rfl ?_
     refine XL.on ?_
     refine XA.o 5 ?_
     refine XL.cw rfl (c13 m r s g hF hs o hc) (by repeat' constructor) rfl ?_
     rintro _ _ ⟨s1, g1, an, rfl, hD, rfl⟩
     refine XL.app2 ?_
     refine XL.on ?_
     refine XA.o 7 ?_
     refine XL.storeA (vs := an) (hs := StL.wholeS (by rw [hD.len]; rfl)) rfl rfl hD.len hD.sca ?_
     refine XL.on ?_
     refine XA.done (by kernel_rfl) ?_
     refine Jp.mt (((s1, g1), an), b2) hD
   exact XO.nil
  refine XO.cons (i := 6) rfl rfl ?_ ?_
  ·refine XL.alloc (by rfl) (fun b2 => ?_)
   refine XL.on ?_
   refine XA.many [1, 3, 4] (by kernel_rfl) rfl ?_
   refine XO.cons (i := 1) rfl rfl ?_ ?_
   ·refine XL.makeIface rfl Tryz.underlying24 rfl rfl ?_
    refine XL.on ?_
    refine XA.two (i := 3) (j := 4) rfl rfl (by kernel_rfl) rfl rfl ?_ ?_
    ·refine XL.cr rfl (c11 m r s) (by repeat' constructor) rfl ?_
     refine XL.on ?_
     refine XA.o 4 ?_
     refine XL.lA ?_
     refine XL.on ?_
     refine XA.o 5 ?_
     refine XL.cw rfl (c13 m r s g hF hs o hc) (by repeat' constructor) rfl ?_
     rintro _ _ ⟨s1, g1, an, rfl, hD, rfl⟩
     refine XL.app2 ?_
     refine XL.on ?_
     refine XA.o 7 ?_
     refine XL.storeA (vs := an) (hs := StL.wholeS (by rw [hD.len]; rfl)) rfl rfl hD.len hD.sca ?_
     refine XL.on ?_
     refine XA.done (by kernel_rfl) ?_
     refine Jp.mt (((s1, g1), an), b2) hD
    ·refine XL.lA ?_
     refine XL.on ?_
     refine XA.o 3 ?_
     refine XL.cr rfl (c11 m r s) (by repeat' constructor) rfl ?_
     refine XL.on ?_
     refine XA.o 5 ?_
     refine XL.cw rfl (c13 m r s g hF hs o hc) (by repeat' constructor) rfl ?_
     rintro _ _ ⟨s1, g1, an, rfl, hD, rfl⟩
     refine XL.app2 ?_
     refine XL.on ?_
     refine XA.o 7 ?_
     refine XL.storeA (vs := an) (hs := StL.wholeS (by rw [hD.len]; rfl)) rfl rfl hD.len hD.sca ?_
     refine XL.on ?_
     refine XA.done (by kernel_rfl) ?_
     refine Jp.mt (((s1, g1), an), b2) hD
   refine XO.cons (i := 3) rfl rfl ?_ ?_
   ·refine XL.cr rfl (c11 m r s) (by repeat' constructor) rfl ?_
    refine XL.on ?_
    refine XA.two (i := 1) (j := 4) rfl rfl (by kernel_rfl) rfl rfl ?_ ?_
    ·refine XL.makeIface rfl Tryz.underlying24 rfl rfl ?_
     refine XL.on ?_
     refine XA.o 4 ?_
     refine XL.lA ?_
     refine XL.on ?_
     refine XA.o 5 ?_
     refine XL.cw rfl (c13 m r s g hF hs o hc) (by repeat' constructor) rfl ?_
     rintro _ _ ⟨s1, g1, an, rfl, hD, rfl⟩
     refine XL.app2 ?_
     refine XL.on ?_
     refine XA.o 7 ?_
     refine XL.storeA (vs := an) (hs := StL.wholeS (by rw [hD.len]; rfl)) rfl rfl hD.len hD.sca ?_
     refine XL.on ?_
     refine XA.done (by kernel_rfl) ?_
     refine Jp.mt (((s1, g1), an), b2) hD
    ·refine XL.lA ?_
     refine XL.on ?_
     refine XA.o 1 ?_
     refine XL.makeIface rfl Tryz.underlying24 rfl rfl ?_
     refine XL.on ?_
     refine XA.o 5 ?_
     refine XL.cw rfl (c13 m r s g hF hs o hc) (by repeat' constructor) rfl ?_
     rintro _ _ ⟨s1, g1, an, rfl, hD, rfl⟩
     refine XL.app2 ?_
     refine XL.on ?_
     refine XA.o 7 ?_
     refine XL.storeA (vs := an) (hs := StL.wholeS (by rw [hD.len]; rfl)) rfl rfl hD.len hD.sca ?_
     refine XL.on ?_
     refine XA.done (by kernel_rfl) ?_
     refine Jp.mt (((s1, g1), an), b2) hD
   refine XO.cons (i := 4) rfl rfl ?_ ?_
   ·refine XL.lA ?_
    refine XL.on ?_
    refine XA.two (i := 1) (j := 3) rfl rfl (by kernel_rfl) rfl rfl ?_ ?_
    ·refine XL.makeIface rfl Tryz.underlying24 rfl rfl ?_
     refine XL.on ?_
     refine XA.o 3 ?_
     refine XL.cr rfl (c11 m r s) (by repeat' constructor) rfl ?_
     refine XL.on ?_
     refine XA.o 5 ?_
     refine XL.cw rfl (c13 m r s g hF hs o hc) (by repeat' constructor) rfl ?_
     rintro _ _ ⟨s1, g1, an, rfl, hD, rfl⟩
     refine XL.app2 ?_
     refine XL.on ?_
     refine XA.o 7 ?_
     refine XL.storeA (vs := an) (hs := StL.wholeS (by rw [hD.len]; rfl)) rfl rfl hD.len hD.sca ?_
     refine XL.on ?_
     refine XA.done (by kernel_rfl) ?_
     refine Jp.mt (((s1, g1), an), b2) hD
    ·refine XL.cr rfl (c11 m r s) (by repeat' constructor) rfl ?_
     refine XL.on ?_
     refine XA.o 1 ?_
     refine XL.makeIface rfl Tryz.underlying24 rfl rfl ?_
     refine XL.on ?_
     refine XA.o 5 ?_
     refine XL.cw rfl (c13 m r s g hF hs o hc) (by repeat' constructor) rfl ?_
     rintro _ _ ⟨s1, g1, an, rfl, hD, rfl⟩
     refine XL.app2 ?_
     refine XL.on ?_
     refine XA.o 7 ?_
     refine XL.storeA (vs := an) (hs := StL.wholeS (by rw [hD.len]; rfl)) rfl rfl hD.len hD.sca ?_
     refine XL.on ?_
     refine XA.done (by kernel_rfl) ?_
     refine Jp.mt (((s1, g1), an), b2) hD
   exact XO.nil
  exact XO.nil
 ·rintro ⟨⟨⟨s1, g1⟩, an⟩, b2⟩ hD
  dsimp only at *
  obtain ⟨v0, ar, rfl⟩ : ∃ v0 ar, an = v0 :: ar := by cases an with | nil => exact absurd hD.len (by simp) | cons v0 ar => exact ⟨_, _, rfl⟩
  refine SP.r2 ?_
  refine XL.f ?_
  refine XL.l ?_
  refine XL.a ?_
  refine XL.n2 ?_
  refine SP.ret ?_
  exact Jp.go (Pk.drop (Γ1 := [Mb m r s1, FieldR r g1]) (by repeat' constructor)) (Jp.end1 (.inr rfl) rfl rfl ⟨s1, g1, v0 :: ar, rfl, hD, rfl⟩)
theorem aw_m : MayQ ⟨0, 20, 0⟩ := by decide
theorem aw_set {s' : St} {g' : Fld} {an : List Value} (h : DoOk (opSet ⟨0, 20, 0⟩ 4) (st0 7) fld0 s' g' an) : an[0]? = some (.int .i64 0) ∧ StOk s' ∧ s'.placed = 1 ∧ g'.cell ⟨0, 20, 0⟩ = ⟨4, 0⟩ ∧ g'.light ⟨0, 20, 0⟩ = ⟨0, 0⟩ ∧ g'.due ⟨0, 20, 0⟩ = 1 := by
 obtain ⟨h1, h2⟩ := h.set rfl aw_m (by unfold opSet MayC; decide) (show (4 : Int) ≠ 1 by decide) (show (landAt 20).a ≠ 1 by decide)
 have h3 := h2.is (show landAt 20 ≠ ⟨4, 0⟩ by decide)
 refine ⟨h1, h.kp.ok (st0_ok 7), h3.1.trans (by decide), ?_, ?_, ?_⟩
 ·have e : g'.cell = _ := h3.2.cell
  rw [e]; exact put_self _ _ _
 ·exact h3.2.light (show clrC (landAt 20) from ⟨by unfold landAt MayC; decide, by unfold landAt KClr; decide⟩) (fun hc => by have h4 := hc.2; revert h4; show ¬ KClr 4; unfold KClr; decide)
 ·have e : g'.due ⟨0, 20, 0⟩ = _ := h3.2.due
  rw [e]; show (Fld.wk fld0 ⟨0, 20, 0⟩ 0 (delayK 4)).due ⟨0, 20, 0⟩ = 1; decide
theorem c6 (hF : FillC) : Tri Tryz.prog 6 [] [] (fun v Γ' => v = .bool true ∧ Γ' = []) := by
 refine Pcalls (n := 49) Tryz.func6 rfl rfl rfl fun W0 H0 => ?_
 refine SP.r2 ?_
 refine XL.a ?_
 refine XL.n4 ?_
 refine XL.cw rfl (F_New 7) (Pk.nil _) rfl ?_
 rintro _ _ ⟨m, r, rfl, rfl⟩
 refine XL.app2 ?_
 refine XL.a ?_
 refine XL.n5 ?_
 refine SP.r2 ?_
 refine XL.m ?_
 refine XL.pnnil_eql rfl rfl ?_
 refine XL.m ?_
 refine XL.g ?_
 refine XL.m ?_
 refine XL.g ?_
 refine XL.cr rfl (c11 m r (st0 7)) (by repeat' constructor) rfl ?_
 refine XL.g ?_
 refine XL.pnnil_eql rfl rfl ?_
 refine XL.pick_f rfl rfl rfl ?_
 refine XL.m ?_
 refine XL.g ?_
 refine XL.m ?_
 refine XL.g ?_
 refine XL.cp rfl (c18 0 20 0) rfl ?_
 refine XL.g ?_
 refine XL.cp rfl (c17 (⟨0, 20, 0⟩ : Pl) 4) rfl ?_
 refine XL.g ?_
 refine XL.cw rfl (c16 m r (st0 7) fld0 hF (st0_ok 7) (opSet (⟨0, 20, 0⟩ : Pl) 4) ⟨by decide, by decide, by decide, by decide⟩) (by repeat' constructor) rfl ?_
 rintro v0 _ ⟨s1, g1, an, hv0, hD, rfl⟩
 refine XL.app2 ?_
 obtain ⟨a1, a2, a3, a4, a5, a6⟩ := aw_set hD
 obtain rfl : v0 = .int .i64 0 := Option.some.inj (hv0.symm.trans a1)
 refine XL.g ?_
 refine XL.neq_f rfl rfl rfl rfl ?_
 refine XL.pick_f rfl rfl rfl ?_
 refine XL.n2 ?_
 refine SP.f ?_
 refine SP.skip ?_
 refine Jp.n4 ?_
 refine XL.m ?_
 refine XL.makeIface rfl Tryz.underlying24 rfl rfl ?_
 refine XL.m ?_
 refine XL.cr rfl (c11 m r s1) (by repeat' constructor) rfl ?_
 refine XL.cp rfl (c18 0 20 0) rfl ?_
 refine XL.cp rfl (c19 (⟨0, 20, 0⟩ : Pl)) rfl ?_
 refine XL.cw rfl (c13 m r s1 g1 hF a2 (opLook (⟨0, 20, 0⟩ : Pl)) ⟨by decide, by decide, by decide, by decide⟩) (by repeat' constructor) rfl ?_
 rintro _ _ ⟨s2, g2, an2, rfl, hD2, rfl⟩
 refine XL.app2 ?_
 obtain ⟨rfl, rfl, hl⟩ := hD2.look rfl aw_m
 have hl2 : an2 = [.int .i64 0, .int .i64 0, .int .i64 0, .int .i64 0, .int .u8 4, .int .u8 0, .int .u8 0, .int .u8 0, .int .i64 1, .int .i64 0, .int .i64 0, .int .i64 0, .int .i64 0, .int .i64 0] := hl.trans (by simp only [opLook, a4, a5, a6])
 subst hl2
 refine XL.alloc (by rfl) (fun b2 => ?_)
 refine XL.sA ?_
 refine XL.n4 ?_
 refine XL.f ?_
 refine XL.lA ?_
 refine XL.build (by rfl) (by rfl) ?_
 refine XL.eqlT (⟨4, 0⟩ : C2) (⟨4, 0⟩ : C2) (by rfl) (by rfl) rfl (fun _ => ?_) (fun hx => absurd rfl hx)
 refine XL.m ?_
 refine XL.g ?_
 refine XL.f ?_
 refine XL.g ?_
 refine XL.lA ?_
 refine XL.g ?_
 refine XL.build (by rfl) (by rfl) ?_
 refine XL.g ?_
 refine XL.eqlT (⟨0, 0⟩ : C2) (⟨0, 0⟩ : C2) (by rfl) (by rfl) rfl (fun _ => ?_) (fun hx => absurd rfl hx)
 refine XL.pick_t rfl rfl rfl ?_
 refine XL.m ?_
 refine XL.g ?_
 refine XL.f ?_
 refine XL.g ?_
 refine XL.l ?_
 refine XL.g ?_
 refine XL.eql_t rfl rfl rfl rfl ?_
 refine XL.pick_t rfl rfl rfl ?_
 refine XL.m ?_
 refine XL.g ?_
 refine XL.m ?_
 refine XL.g ?_
 refine XL.cr rfl (c11 m r s2) (by repeat' constructor) rfl ?_
 refine XL.g ?_
 refine XL.nilCheck rfl rfl ?_
 refine XL.g ?_
 refine XL.f ?_
 refine XL.g ?_
 refine XL.f ?_
 refine XL.g ?_
 refine XL.l ?_
 refine XL.g ?_
 refine XL.eql_t rfl rfl a3 rfl ?_
 refine XL.pick_t rfl rfl rfl ?_
 refine XL.a ?_
 refine XL.n2 ?_
 refine SP.ret ?_
 exact Jp.go (fun h _ => star_nil h) (Jp.end1 (.inr rfl) rfl rfl ⟨rfl, rfl⟩)
theorem cntM_bd (l : List C2) (i : Nat) : 0 ≤ cntM l i ∧ cntM l i ≤ (i : Int) := by
 unfold cntM
 have h1 := List.length_filter_le (fun c : C2 => decide (KMov c.a)) (l.take i)
 have h2 := List.length_take_le i l
 omega
theorem chDo_bd (k : Pl) (c : Option Ch) : -4096 ≤ chDo k c ∧ chDo k c ≤ 4096 := by
 cases c with
 | none => exact ⟨show (-4096 : Int) ≤ 0 by decide, show (0 : Int) ≤ 4096 by decide⟩
 | some c =>
  have h1 := cntM_bd c.cells 4096
  have h2 := cntM_bd (landCh k.y).cells 4096
  show -4096 ≤ chD k c ∧ chD k c ≤ 4096
  unfold chD; omega
theorem sumL_bd (L : List Ent) (l : List Pl) : -4096 * (l.length : Int) ≤ sumL L l ∧ sumL L l ≤ 4096 * (l.length : Int) := by
 induction l with
 | nil => exact ⟨show (-4096 * ((0 : Nat) : Int) : Int) ≤ 0 by decide, show (0 : Int) ≤ 4096 * ((0 : Nat) : Int) by decide⟩
 | cons x l ih =>
  have h1 := chDo_bd x (getM (keyed L) x)
  have h2 : sumL L (x :: l) = chDo x (getM (keyed L) x) + sumL L l := by simp [sumL]
  rw [h2]; simp only [List.length_cons]; omega
theorem sumL_take (L : List Ent) {l : List Pl} {i : Nat} {x : Pl} (h : l[i]? = some x) : sumL L (l.take (i + 1)) = sumL L (l.take i) + chDo x (getM (keyed L) x) := by
 rw [List.take_add_one, h]; exact sumL_snoc L _ x
theorem w64_bd (n : Int) : -9223372036854775808 ≤ w64 n ∧ w64 n ≤ 9223372036854775807 := by
 unfold w64 IntKind.wrap
 simp only [IntKind.bits, IntKind.signed, Bool.true_and]
 split
 ·next h => have h := of_decide_eq_true h; omega
 ·next h => have h := of_decide_eq_false (Bool.eq_false_iff.2 h); omega
theorem led_eq {s : St} {g : Fld} {n : Int} (h : LedOk s g) (hg : n = g.D) (hb : -9223372036854775808 ≤ n ∧ n ≤ 9223372036854775807) : n = w64 (w64 (w64 (s.placed - s.broken) + s.grown) - s.burnt) := by
 unfold LedOk Led at h
 have h1 := w64_mod (s.placed - s.broken)
 have h2 := w64_mod (w64 (s.placed - s.broken) + s.grown)
 have h3 := w64_mod (w64 (w64 (s.placed - s.broken) + s.grown) - s.burnt)
 have h4 := w64_bd (w64 (w64 (s.placed - s.broken) + s.grown) - s.burnt)
 omega
theorem c4b (hF : FillC) (seed : Int) (bI oI TI cl : Nat) (fI : Nat × Nat) (csI : List Value) (l : List OpR) (hn : l.length ≤ 2000000000000) (hcs : ∀ i x, l[i]? = some x → SbL csI (oI + i * 10) 10 x.cs) (hr : ∀ o ∈ l, C2.rng o.c) : Tri Tryz.prog 4 [.int .u64 seed, .slice (some ⟨bI, oI, none⟩) l.length cl] [ptI bI csI TI fI] (fun w Γ' => (fewB l = false ∧ w = .pointer none ∧ Γ' = [ptI bI csI TI fI]) ∨ (fewB l = true ∧ ∃ (m r : Nat) (s : St) (g : Fld), w = mp m ∧ LedOk s g ∧ Γ' = [Mb m r s, FieldR r g, ptI bI csI TI fI])) := by
 refine Pcalls (n := 32) Tryz.func4 rfl rfl rfl fun W0 H0 => ?_
 refine SP.r2 ?_
 refine XL.a ?_
 refine XL.n5 ?_
 refine SP.r2 ?_
 refine XL.m ?_
 refine XL.cr rfl (c5b bI oI TI cl fI csI l hn hcs) (by repeat' constructor) rfl ?_
 rcases hfw : fewB l with _ | _
 ·refine XL.not_f rfl rfl ?_
  refine XL.n2 ?_
  refine SP.t ?_
  refine SP.r2 ?_
  refine XL.a ?_
  refine XL.n2 ?_
  refine SP.ret ?_
  refine Jp.then_ret ?_
  exact Jp.go (Pk.drop (Γ1 := [ptI bI csI TI fI]) (by repeat' constructor)) (Jp.end1 (.inr rfl) rfl rfl (.inl ⟨rfl, rfl, rfl⟩))
 ·refine XL.not_t rfl rfl ?_
  refine XL.n2 ?_
  refine SP.f ?_
  refine SP.skip ?_
  refine Jp.n4 ?_
  refine XL.m ?_
  refine XL.cw rfl (F_New seed) (Pk.nil _) rfl ?_
  rintro _ _ ⟨m, r, rfl, rfl⟩
  refine XL.app2 ?_
  refine XL.a ?_
  refine XL.n5 ?_
  refine SP.r2 ?_
  refine XL.a ?_
  refine XL.n2 ?_
  refine SP.block ?_
  refine SP.loop (X := (Nat × St) × Fld) (fun w => [(6, .int .i64 (w.1.1 : Int)), (5, mp m), (1, .slice (some ⟨bI, oI, none⟩) l.length cl)]) (fun w => [Mb m r w.1.2, FieldR r w.2, ptI bI csI TI fI]) (fun w => w.1.1 ≤ l.length ∧ StOk w.1.2 ∧ LedOk w.1.2 w.2) (fun w => l.length - w.1.1) ((0, st0 seed), fld0) ⟨Nat.zero_le _, st0_ok seed, st0_led seed⟩ (by repeat' constructor) (Pk.drop (by repeat' constructor)) ?_
  rintro ⟨⟨i, s⟩, g⟩ ⟨hi, hs, hled⟩
  dsimp only at *
  refine SP.seq ?_
  refine SP.r2 ?_
  refine XL.m ?_
  refine XL.m ?_
  refine XL.len (by rfl) (by rfl) ?_
  refine XL.lss_s rfl rfl rfl (fun hc => ?_) (fun hc => ?_)
  ·obtain ⟨o, hgo⟩ : ∃ o, l[i]? = some o := ⟨_, List.getElem?_eq_getElem (show i < l.length by omega)⟩
   have hc2 := hr o (List.mem_of_getElem? hgo)
   refine XL.m ?_
   refine XL.g ?_
   refine XL.m ?_
   refine XL.g ?_
   refine XL.pnnil_neq rfl rfl ?_
   refine XL.pick_t rfl rfl rfl ?_
   refine XL.n2 ?_
   refine SP.t ?_
   refine SP.skip ?_
   refine Jp.then_normal ?_
   refine SP.seq ?_
   refine SP.block ?_
   refine SP.tail 8 Tryz.fol (by kernel_rfl) ?_
   refine XL.m ?_
   refine XL.makeIface rfl Tryz.underlying24 rfl rfl ?_
   refine XL.m ?_
   refine XL.cr rfl (c11 m r s) (by repeat' constructor) rfl ?_
   refine XL.m ?_
   refine XL.m ?_
   refine XL.indexSl (r := oI + i * 10) rfl rfl (by omega) (by omega) (by simp) rfl ?_
   refine XL.loadI rfl (by repeat' constructor) (hcs i o hgo) rfl ?_
   refine XL.nilq_tail ?_
   refine XL.cw rfl (c13 m r s g hF hs o hc2) (by repeat' constructor) rfl ?_
   rintro _ _ ⟨s1, g1, an, rfl, hD, rfl⟩
   refine XL.app2 ?_
   refine XL.nil ?_
   refine Jp.block_normal ?_
   refine Jp.then_normal ?_
   refine SP.region ?_
   refine XL.m ?_
   refine XL.add_i64 rfl rfl (by omega) (by omega) rfl ?_
   refine XL.a ?_
   refine XL.nil ?_
   refine Jp.rd ((i + 1, s1), g1) ⟨by show i + 1 ≤ l.length; omega, hD.kp.ok hs, hD.kp.led hled⟩ (by show l.length - (i + 1) < l.length - i; omega)
  ·refine XL.m ?_
   refine XL.k ?_
   refine XL.k ?_
   refine XL.pick_f rfl rfl rfl ?_
   refine XL.n2 ?_
   refine SP.f ?_
   refine SP.exit ?_
   refine Jp.then_exit ?_
   refine Jp.then_exit ?_
   refine Jp.block_here ?_
   refine Jp.n4 ?_
   refine XL.m ?_
   refine XL.a ?_
   refine XL.n2 ?_
   refine SP.ret ?_
   exact Jp.end1 (.inr rfl) rfl rfl (.inr ⟨rfl, m, r, s, g, rfl, hled, rfl⟩)
theorem c3b (hF : FillC) (seed : Int) (bI oI TI cl : Nat) (fI : Nat × Nat) (csI : List Value) (l : List OpR) (hn : l.length ≤ 2000000000000) (hcs : ∀ i x, l[i]? = some x → SbL csI (oI + i * 10) 10 x.cs) (hr : ∀ o ∈ l, C2.rng o.c) : Tri Tryz.prog 3 [.int .u64 seed, .slice (some ⟨bI, oI, none⟩) l.length cl] [ptI bI csI TI fI] (fun w Γ' => w = .bool true ∧ Γ' = [ptI bI csI TI fI]) := by
 refine Pcalls (n := 71) Tryz.func3 rfl rfl rfl fun W0 H0 => ?_
 refine SP.r2 ?_
 refine XL.a ?_
 refine XL.n4 ?_
 refine XL.m ?_
 refine XL.m ?_
 refine XL.cw rfl (c4b hF seed bI oI TI cl fI csI l hn hcs hr) (by repeat' constructor) rfl ?_
 rintro w _ (⟨hfw, rfl, rfl⟩ | ⟨hfw, m, r, s, g, rfl, hled, rfl⟩)
 ·refine XL.app1 ?_
  refine XL.a ?_
  refine XL.n5 ?_
  refine SP.r2 ?_
  refine XL.m ?_
  refine XL.pnil_eql rfl rfl ?_
  refine XL.n2 ?_
  refine SP.t ?_
  refine SP.r2 ?_
  refine XL.m ?_
  refine XL.cr rfl (c5b bI oI TI cl fI csI l hn hcs) (by repeat' constructor) rfl ?_
  rw [hfw]
  refine XL.not_f rfl rfl ?_
  refine XL.m ?_
  refine XL.g ?_
  refine XL.cr rfl (Tri.conseq (c6 hF) fun v Γ' h => ⟨_, h, fun k hk => hk⟩) (Pk.nil _) rfl ?_
  refine XL.pick_t rfl rfl rfl ?_
  refine XL.a ?_
  refine XL.n2 ?_
  refine SP.ret ?_
  refine Jp.then_ret ?_
  exact Jp.go (Pk.drop (Γ1 := [ptI bI csI TI fI]) (by repeat' constructor)) (Jp.end1 (.inr rfl) rfl rfl ⟨rfl, rfl⟩)
 ·refine XL.app3 ?_
  refine XL.a ?_
  refine XL.n5 ?_
  refine SP.r2 ?_
  refine XL.m ?_
  refine XL.pnnil_eql rfl rfl ?_
  refine XL.weaken (Rm.conv (A := FieldR r g) (by repeat' constructor) FieldR.ex) ?_
  refine XL.openEx (by repeat' constructor) (fun L hLA => ?_)
  obtain ⟨hL, hAb⟩ := hLA
  refine XL.weaken (Γ' := [ptI bI csI TI fI, Mb m r s, MpC r (mapOf L), EN L]) (fun h st => Pk.drop (Γ1 := [ptI bI csI TI fI, Mb m r s, MpC r (mapOf L), EN L]) (by repeat' constructor) h st) ?_
  refine XL.n2 ?_
  refine SP.f ?_
  refine SP.skip ?_
  refine Jp.n4 ?_
  refine XL.a ?_
  refine XL.n4 ?_
  refine XL.m ?_
  refine XL.cw rfl (c7 m r s L hL) (by repeat' constructor) rfl ?_
  rintro v0 _ ⟨o, hsum, hom, hol, rfl⟩
  refine XL.app4 ?_
  refine XL.know (Rm.know (A := SpS v0 o) (by repeat' constructor) (fun _ hq => Sl'.len hq)) ?_
  rintro ⟨ao, co, rfl, _⟩
  refine XL.a ?_
  refine XL.n5 ?_
  refine SP.r2 ?_
  refine XL.a ?_
  refine XL.n2 ?_
  refine SP.block ?_
  refine SP.loop (X := Nat) (fun i => [(8, .int .i64 (i : Int)), (6, .int .i64 (sumL L (o.take i))), (5, mp m), (7, .slice ao o.length co)]) (fun i => [SpS (.slice ao o.length co) o, ptI bI csI TI fI, Mb m r s, MpC r (mapOf L), EN L]) (fun i => i ≤ o.length) (fun i => o.length - i) 0 (Nat.zero_le _) (by repeat' constructor) (Pk.drop (by repeat' constructor)) ?_
  rintro i hi
  have hsb := sumL_bd L (o.take i)
  rw [List.length_take, Nat.min_eq_left hi] at hsb
  refine SP.seq ?_
  refine SP.r2 ?_
  refine XL.m ?_
  refine XL.m ?_
  refine XL.len (by rfl) (by rfl) ?_
  refine XL.lss_s rfl rfl rfl (fun hc => ?_) (fun hc => ?_)
  ·obtain ⟨x, hgx⟩ : ∃ x, o[i]? = some x := ⟨_, List.getElem?_eq_getElem (show i < o.length by omega)⟩
   have hxm := hom x (List.mem_of_getElem? hgx)
   refine XL.know (Rm.know (A := SpS _ o) (by repeat' constructor) (fun _ hq => Sl'.ptr hq (by omega))) ?_
   rintro ⟨bo, co', eo, _⟩
   obtain rfl : ao = some ⟨bo, 0, none⟩ := by injection eo
   refine XL.n2 ?_
   refine SP.t ?_
   refine SP.skip ?_
   refine Jp.then_normal ?_
   refine SP.seq ?_
   refine SP.block ?_
   refine SP.r2 ?_
   refine XL.m ?_
   refine XL.m ?_
   refine XL.m ?_
   refine XL.indexSl (r := i * 3) rfl rfl (by omega) (by omega) (by simp) rfl ?_
   refine XL.loadA (hs := SbL.flat Pl.len hgx rfl) rfl rfl ?_
   refine XL.cw rfl (C_Chunk m r s L hL x hxm) (by repeat' constructor) rfl ?_
   rintro _ _ ⟨bc, c, rfl, hcok, hcd, rfl⟩
   refine XL.app4 ?_
   have hb1 := cntM_bd c.cells 4096
   have hb2 := cntM_bd (landCh x.y).cells 4096
   refine XL.m ?_
   refine XL.x ?_
   refine XL.x ?_
   refine XL.a ?_
   refine XL.a ?_
   refine XL.n2 ?_
   refine SP.quiet Tryz.fol (by kernel_rfl) ?_
   refine XL.m ?_
   refine XL.m ?_
   refine XL.cr rfl (c9 bc c hcok) (by repeat' constructor) rfl ?_
   refine XL.m ?_
   refine XL.m ?_
   refine XL.indexSl (r := i * 3) rfl rfl (by omega) (by omega) (by simp) rfl ?_
   refine XL.loadA (hs := SbL.flat Pl.len hgx rfl) rfl rfl ?_
   refine XL.cp rfl (c10 x.x x.y x.z hxm) rfl ?_
   refine XL.sub_i64 rfl rfl (by omega) (by omega) rfl ?_
   rw [hcd]
   refine XL.add_i64 rfl rfl (by omega) (by omega) rfl ?_
   refine XL.a ?_
   refine XL.nilq_end ?_
   refine Jp.block_normal ?_
   refine Jp.then_normal ?_
   refine SP.region ?_
   refine XL.m ?_
   refine XL.add_i64 rfl rfl (by omega) (by omega) rfl ?_
   refine XL.a ?_
   refine XL.nil ?_
   rw [← sumL_take L hgx]
   refine Jp.rd (i + 1) (by omega) (by omega)
  ·obtain rfl : i = o.length := by omega
   rw [List.take_length] at hsb
   refine XL.n2 ?_
   refine SP.f ?_
   refine SP.exit ?_
   refine Jp.then_exit ?_
   refine Jp.then_exit ?_
   refine Jp.block_here ?_
   refine Jp.n4 ?_
   refine XL.m ?_
   refine XL.cr rfl (c11 m r s) (by repeat' constructor) rfl ?_
   refine XL.nilCheck rfl rfl ?_
   refine XL.f ?_
   refine XL.lA ?_
   refine XL.alloc (by rfl) (fun b9 => ?_)
   refine XL.sA ?_
   refine XL.n4 ?_
   refine XL.m ?_
   refine XL.f ?_
   refine XL.l ?_
   refine XL.f ?_
   refine XL.l ?_
   refine XL.subw rfl rfl rfl ?_
   refine XL.f ?_
   refine XL.l ?_
   refine XL.addw rfl rfl rfl ?_
   refine XL.f ?_
   refine XL.l ?_
   refine XL.subw rfl rfl rfl ?_
   refine XL.eql_t rfl rfl (led_eq hled (by rw [List.take_length, hsum, hAb.D]) (by rw [List.take_length]; omega)) rfl ?_
   refine XL.m ?_
   refine XL.g ?_
   refine XL.cr rfl (Tri.conseq (c6 hF) fun v Γ' h => ⟨_, h, fun k hk => hk⟩) (Pk.nil _) rfl ?_
   refine XL.pick_t rfl rfl rfl ?_
   refine XL.a ?_
   refine XL.n2 ?_
   refine SP.ret ?_
   exact Jp.go (Pk.drop (Γ1 := [ptI bI csI TI fI]) (by repeat' constructor)) (Jp.end1 (.inr rfl) rfl rfl ⟨rfl, rfl⟩)
theorem c4n (hF : FillC) (seed : Int) (a0 : Option Addr) (cl : Nat) (l : List OpR) (hn : l.length ≤ 2000000000000) (hl0 : l = []) (hr : ∀ o ∈ l, C2.rng o.c) : Tri Tryz.prog 4 [.int .u64 seed, .slice a0 l.length cl] [tt] (fun w Γ' => (fewB l = false ∧ w = .pointer none ∧ Γ' = [tt]) ∨ (fewB l = true ∧ ∃ (m r : Nat) (s : St) (g : Fld), w = mp m ∧ LedOk s g ∧ Γ' = [Mb m r s, FieldR r g, tt])) := by
 refine Pcalls (n := 32) Tryz.func4 rfl rfl rfl fun W0 H0 => ?_
 have hl1 : l.length = 0 := by rw [hl0]; rfl
 refine SP.r2 ?_
 refine XL.a ?_
 refine XL.n5 ?_
 refine SP.r2 ?_
 refine XL.m ?_
 refine XL.cr rfl (c5n a0 cl l hn hl0) (by repeat' constructor) rfl ?_
 rcases hfw : fewB l with _ | _
 ·refine XL.not_f rfl rfl ?_
  refine XL.n2 ?_
  refine SP.t ?_
  refine SP.r2 ?_
  refine XL.a ?_
  refine XL.n2 ?_
  refine SP.ret ?_
  refine Jp.then_ret ?_
  exact Jp.go (Pk.drop (Γ1 := [tt]) (by repeat' constructor)) (Jp.end1 (.inr rfl) rfl rfl (.inl ⟨rfl, rfl, rfl⟩))
 ·refine XL.not_t rfl rfl ?_
  refine XL.n2 ?_
  refine SP.f ?_
  refine SP.skip ?_
  refine Jp.n4 ?_
  refine XL.m ?_
  refine XL.cw rfl (F_New seed) (Pk.nil _) rfl ?_
  rintro _ _ ⟨m, r, rfl, rfl⟩
  refine XL.app2 ?_
  refine XL.a ?_
  refine XL.n5 ?_
  refine SP.r2 ?_
  refine XL.a ?_
  refine XL.n2 ?_
  refine SP.block ?_
  refine SP.loop (X := (Nat × St) × Fld) (fun w => [(6, .int .i64 (w.1.1 : Int)), (5, mp m), (1, .slice a0 l.length cl)]) (fun w => [Mb m r w.1.2, FieldR r w.2, tt]) (fun w => w.1.1 ≤ l.length ∧ StOk w.1.2 ∧ LedOk w.1.2 w.2) (fun w => l.length - w.1.1) ((0, st0 seed), fld0) ⟨Nat.zero_le _, st0_ok seed, st0_led seed⟩ (by repeat' constructor) (Pk.drop (by repeat' constructor)) ?_
  rintro ⟨⟨i, s⟩, g⟩ ⟨hi, hs, hled⟩
  dsimp only at *
  refine SP.seq ?_
  refine SP.r2 ?_
  refine XL.m ?_
  refine XL.m ?_
  refine XL.len (by rfl) (by rfl) ?_
  refine XL.lss_s rfl rfl rfl (fun hc => ?_) (fun hc => ?_)
  ·exfalso; omega
  ·refine XL.m ?_
   refine XL.k ?_
   refine XL.k ?_
   refine XL.pick_f rfl rfl rfl ?_
   refine XL.n2 ?_
   refine SP.f ?_
   refine SP.exit ?_
   refine Jp.then_exit ?_
   refine Jp.then_exit ?_
   refine Jp.block_here ?_
   refine Jp.n4 ?_
   refine XL.m ?_
   refine XL.a ?_
   refine XL.n2 ?_
   refine SP.ret ?_
   exact Jp.end1 (.inr rfl) rfl rfl (.inr ⟨rfl, m, r, s, g, rfl, hled, rfl⟩)
theorem c3n (hF : FillC) (seed : Int) (a0 : Option Addr) (cl : Nat) (l : List OpR) (hn : l.length ≤ 2000000000000) (hl0 : l = []) (hr : ∀ o ∈ l, C2.rng o.c) : Tri Tryz.prog 3 [.int .u64 seed, .slice a0 l.length cl] [tt] (fun w Γ' => w = .bool true ∧ Γ' = [tt]) := by
 refine Pcalls (n := 71) Tryz.func3 rfl rfl rfl fun W0 H0 => ?_
 have hl1 : l.length = 0 := by rw [hl0]; rfl
 refine SP.r2 ?_
 refine XL.a ?_
 refine XL.n4 ?_
 refine XL.m ?_
 refine XL.m ?_
 refine XL.cw rfl (c4n hF seed a0 cl l hn hl0 hr) (by repeat' constructor) rfl ?_
 rintro w _ (⟨hfw, rfl, rfl⟩ | ⟨hfw, m, r, s, g, rfl, hled, rfl⟩)
 ·refine XL.app1 ?_
  refine XL.a ?_
  refine XL.n5 ?_
  refine SP.r2 ?_
  refine XL.m ?_
  refine XL.pnil_eql rfl rfl ?_
  refine XL.n2 ?_
  refine SP.t ?_
  refine SP.r2 ?_
  refine XL.m ?_
  refine XL.cr rfl (c5n a0 cl l hn hl0) (by repeat' constructor) rfl ?_
  rw [hfw]
  refine XL.not_f rfl rfl ?_
  refine XL.m ?_
  refine XL.g ?_
  refine XL.cr rfl (Tri.conseq (c6 hF) fun v Γ' h => ⟨_, h, fun k hk => hk⟩) (Pk.nil _) rfl ?_
  refine XL.pick_t rfl rfl rfl ?_
  refine XL.a ?_
  refine XL.n2 ?_
  refine SP.ret ?_
  refine Jp.then_ret ?_
  exact Jp.go (Pk.drop (Γ1 := [tt]) (by repeat' constructor)) (Jp.end1 (.inr rfl) rfl rfl ⟨rfl, rfl⟩)
 ·refine XL.app3 ?_
  refine XL.a ?_
  refine XL.n5 ?_
  refine SP.r2 ?_
  refine XL.m ?_
  refine XL.pnnil_eql rfl rfl ?_
  refine XL.weaken (Rm.conv (A := FieldR r g) (by repeat' constructor) FieldR.ex) ?_
  refine XL.openEx (by repeat' constructor) (fun L hLA => ?_)
  obtain ⟨hL, hAb⟩ := hLA
  refine XL.weaken (Γ' := [tt, Mb m r s, MpC r (mapOf L), EN L]) (fun h st => Pk.drop (Γ1 := [tt, Mb m r s, MpC r (mapOf L), EN L]) (by repeat' constructor) h st) ?_
  refine XL.n2 ?_
  refine SP.f ?_
  refine SP.skip ?_
  refine Jp.n4 ?_
  refine XL.a ?_
  refine XL.n4 ?_
  refine XL.m ?_
  refine XL.cw rfl (c7 m r s L hL) (by repeat' constructor) rfl ?_
  rintro v0 _ ⟨o, hsum, hom, hol, rfl⟩
  refine XL.app4 ?_
  refine XL.know (Rm.know (A := SpS v0 o) (by repeat' constructor) (fun _ hq => Sl'.len hq)) ?_
  rintro ⟨ao, co, rfl, _⟩
  refine XL.a ?_
  refine XL.n5 ?_
  refine SP.r2 ?_
  refine XL.a ?_
  refine XL.n2 ?_
  refine SP.block ?_
  refine SP.loop (X := Nat) (fun i => [(8, .int .i64 (i : Int)), (6, .int .i64 (sumL L (o.take i))), (5, mp m), (7, .slice ao o.length co)]) (fun i => [SpS (.slice ao o.length co) o, tt, Mb m r s, MpC r (mapOf L), EN L]) (fun i => i ≤ o.length) (fun i => o.length - i) 0 (Nat.zero_le _) (by repeat' constructor) (Pk.drop (by repeat' constructor)) ?_
  rintro i hi
  have hsb := sumL_bd L (o.take i)
  rw [List.length_take, Nat.min_eq_left hi] at hsb
  refine SP.seq ?_
  refine SP.r2 ?_
  refine XL.m ?_
  refine XL.m ?_
  refine XL.len (by rfl) (by rfl) ?_
  refine XL.lss_s rfl rfl rfl (fun hc => ?_) (fun hc => ?_)
  ·obtain ⟨x, hgx⟩ : ∃ x, o[i]? = some x := ⟨_, List.getElem?_eq_getElem (show i < o.length by omega)⟩
   have hxm := hom x (List.mem_of_getElem? hgx)
   refine XL.know (Rm.know (A := SpS _ o) (by repeat' constructor) (fun _ hq => Sl'.ptr hq (by omega))) ?_
   rintro ⟨bo, co', eo, _⟩
   obtain rfl : ao = some ⟨bo, 0, none⟩ := by injection eo
   refine XL.n2 ?_
   refine SP.t ?_
   refine SP.skip ?_
   refine Jp.then_normal ?_
   refine SP.seq ?_
   refine SP.block ?_
   refine SP.r2 ?_
   refine XL.m ?_
   refine XL.m ?_
   refine XL.m ?_
   refine XL.indexSl (r := i * 3) rfl rfl (by omega) (by omega) (by simp) rfl ?_
   refine XL.loadA (hs := SbL.flat Pl.len hgx rfl) rfl rfl ?_
   refine XL.cw rfl (C_Chunk m r s L hL x hxm) (by repeat' constructor) rfl ?_
   rintro _ _ ⟨bc, c, rfl, hcok, hcd, rfl⟩
   refine XL.app4 ?_
   have hb1 := cntM_bd c.cells 4096
   have hb2 := cntM_bd (landCh x.y).cells 4096
   refine XL.m ?_
   refine XL.x ?_
   refine XL.x ?_
   refine XL.a ?_
   refine XL.a ?_
   refine XL.n2 ?_
   refine SP.quiet Tryz.fol (by kernel_rfl) ?_
   refine XL.m ?_
   refine XL.m ?_
   refine XL.cr rfl (c9 bc c hcok) (by repeat' constructor) rfl ?_
   refine XL.m ?_
   refine XL.m ?_
   refine XL.indexSl (r := i * 3) rfl rfl (by omega) (by omega) (by simp) rfl ?_
   refine XL.loadA (hs := SbL.flat Pl.len hgx rfl) rfl rfl ?_
   refine XL.cp rfl (c10 x.x x.y x.z hxm) rfl ?_
   refine XL.sub_i64 rfl rfl (by omega) (by omega) rfl ?_
   rw [hcd]
   refine XL.add_i64 rfl rfl (by omega) (by omega) rfl ?_
   refine XL.a ?_
   refine XL.nilq_end ?_
   refine Jp.block_normal ?_
   refine Jp.then_normal ?_
   refine SP.region ?_
   refine XL.m ?_
   refine XL.add_i64 rfl rfl (by omega) (by omega) rfl ?_
   refine XL.a ?_
   refine XL.nil ?_
   rw [← sumL_take L hgx]
   refine Jp.rd (i + 1) (by omega) (by omega)
  ·obtain rfl : i = o.length := by omega
   rw [List.take_length] at hsb
   refine XL.n2 ?_
   refine SP.f ?_
   refine SP.exit ?_
   refine Jp.then_exit ?_
   refine Jp.then_exit ?_
   refine Jp.block_here ?_
   refine Jp.n4 ?_
   refine XL.m ?_
   refine XL.cr rfl (c11 m r s) (by repeat' constructor) rfl ?_
   refine XL.nilCheck rfl rfl ?_
   refine XL.f ?_
   refine XL.lA ?_
   refine XL.alloc (by rfl) (fun b9 => ?_)
   refine XL.sA ?_
   refine XL.n4 ?_
   refine XL.m ?_
   refine XL.f ?_
   refine XL.l ?_
   refine XL.f ?_
   refine XL.l ?_
   refine XL.subw rfl rfl rfl ?_
   refine XL.f ?_
   refine XL.l ?_
   refine XL.addw rfl rfl rfl ?_
   refine XL.f ?_
   refine XL.l ?_
   refine XL.subw rfl rfl rfl ?_
   refine XL.eql_t rfl rfl (led_eq hled (by rw [List.take_length, hsum, hAb.D]) (by rw [List.take_length]; omega)) rfl ?_
   refine XL.m ?_
   refine XL.g ?_
   refine XL.cr rfl (Tri.conseq (c6 hF) fun v Γ' h => ⟨_, h, fun k hk => hk⟩) (Pk.nil _) rfl ?_
   refine XL.pick_t rfl rfl rfl ?_
   refine XL.a ?_
   refine XL.n2 ?_
   refine SP.ret ?_
   exact Jp.go (Pk.drop (Γ1 := [tt]) (by repeat' constructor)) (Jp.end1 (.inr rfl) rfl rfl ⟨rfl, rfl⟩)
end Go.Proofs

namespace Go.Proofs
open Go.Bk
theorem box_may {p q : Pl} (hb : BxOk p q) {x y z : Int} (hx : mnI p.x q.x ≤ x ∧ x ≤ mxI p.x q.x) (hy : mnI p.y q.y ≤ y ∧ y ≤ mxI p.y q.y) (hz : mnI p.z q.z ≤ z ∧ z ≤ mxI p.z q.z) : MayQ ⟨x, y, z⟩ := by
 have hp := hb.mp; have hq := hb.mq
 have h1 := mm_bd p.x q.x; have h2 := mm_bd p.y q.y; have h3 := mm_bd p.z q.z
 unfold MayQ MayP at *
 simp only
 omega
theorem c52 (p q : Pl) : Tri Tryz.prog 52 [plv p, plv q] [] (fun v Γ' => ∃ b1 b2, v = .func (.func 75) #[] #[.pointer (some ⟨b1, 0, none⟩), .pointer (some ⟨b2, 0, none⟩)] ∧ Γ' = [pt b1 (cel p.cs 49), pt b2 (cel q.cs 49)]) := by
 refine Pcalls (n := 6) Tryz.func52 rfl rfl rfl fun W0 H0 => ?_
 refine SP.r2 ?_
 refine XL.boxA rfl rfl (fun b1 => ?_)
 refine XL.boxA rfl rfl (fun b2 => ?_)
 refine XL.a ?_
 refine XL.n4 ?_
 refine XL.makeFunc (l1 := []) (l2 := [.tmp 2, .tmp 3]) rfl rfl rfl ?_
 refine XL.a ?_
 refine XL.n2 ?_
 refine SP.ret ?_
 exact Jp.go (Pk.drop (Γ1 := [pt b1 (cel p.cs 49), pt b2 (cel q.cs 49)]) (by repeat' constructor)) (Jp.end1 (.inr rfl) rfl rfl ⟨b1, b2, rfl, rfl⟩)
theorem c75 (m l b1 b2 : Nat) (p q : Pl) (J : Asn) (hY : ∀ x : Pl, MayQ x → TriY Tryz.prog m l [plv x] [J] (fun v Γ' => v = .bool true ∧ Γ' = [J])) : Tri Tryz.prog 75 [.func (.yield l) #[] #[], .pointer (some ⟨b1, 0, none⟩), .pointer (some ⟨b2, 0, none⟩)] [pt b1 (cel p.cs 49), pt b2 (cel q.cs 49), J] (fun v Γ' => v = .tuple #[] ∧ Γ' = [pt b1 (cel p.cs 49), pt b2 (cel q.cs 49), J]) := by
 refine Pcalls (n := 52) Tryz.func75 rfl rfl rfl fun W0 H0 => ?_
 refine SP.scope ?_
 refine SP.r2 ?_
 refine XL.lA ?_
 refine XL.lA ?_
 obtain ⟨lo, hi, n, e, hbx, hbe⟩ := c51 p q
 refine XL.cp rfl hbx rfl ?_
 refine XL.m ?_
 refine XL.x ?_
 refine XL.x ?_
 refine XL.x ?_
 refine XL.x ?_
 refine XL.alloc (by rfl) (fun b3 => ?_)
 refine XL.alloc (by rfl) (fun b4 => ?_)
 refine XL.sA ?_
 refine XL.sA ?_
 refine XL.a ?_
 refine XL.a ?_
 refine XL.n5 ?_
 refine SP.r2 ?_
 refine XL.m ?_
 by_cases he : e = 0
 ·subst he
  refine XL.neq_f rfl rfl rfl rfl ?_
  obtain ⟨hb, rfl, rfl⟩ := hbe rfl
  have hmx := mm_bd p.x q.x
  have hmy := mm_bd p.y q.y
  have hmz := mm_bd p.z q.z
  have ehx : (bxHi p q).x = mxI p.x q.x := rfl
  have ehy : (bxHi p q).y = mxI p.y q.y := rfl
  have ehz : (bxHi p q).z = mxI p.z q.z := rfl
  have hbm := hb.mp
  have hbq := hb.mq
  unfold MayQ MayP at hbm hbq
  refine XL.n2 ?_
  refine SP.f ?_
  refine SP.skip ?_
  refine Jp.then_normal ?_
  refine SP.seq ?_
  refine SP.label ?_
  refine Jp.n4 ?_
  refine XL.f ?_
  refine XL.l ?_
  refine XL.a ?_
  refine XL.n2 ?_
  refine SP.block ?_
  refine SP.loop (X := Int) (fun w => [(8, .int .i64 w), (0, .func (.yield l) #[] #[]), (4, .pointer (some ⟨b3, 0, none⟩)), (5, .pointer (some ⟨b4, 0, none⟩))]) (fun w => [pt b3 (cel (bxLo p q).cs 49), pt b4 (cel (bxHi p q).cs 49), pt b1 (cel p.cs 49), pt b2 (cel q.cs 49), J]) (fun w => mnI p.y q.y ≤ w ∧ w ≤ mxI p.y q.y + 1) (fun w => (mxI p.y q.y + 1 - w).toNat) (mnI p.y q.y) ⟨Int.le_refl _, by omega⟩ (by repeat' constructor) (Pk.drop (by repeat' constructor)) ?_
  rintro y ⟨hy1, hy2⟩
  refine SP.seq ?_
  refine SP.r2 ?_
  refine XL.m ?_
  refine XL.f ?_
  refine XL.l ?_
  refine XL.leq_s rfl rfl rfl (fun cy => ?_) (fun cy => ?_)
  ·refine XL.n2 ?_
   refine SP.t ?_
   refine SP.skip ?_
   refine Jp.then_normal ?_
   refine SP.seq ?_
   refine SP.block ?_
   refine SP.r2 ?_
   refine XL.f ?_
   refine XL.l ?_
   refine XL.a ?_
   refine XL.n2 ?_
   refine SP.block ?_
   refine SP.loop (X := Int) (fun w => [(9, .int .i64 w), (8, .int .i64 y), (0, .func (.yield l) #[] #[]), (4, .pointer (some ⟨b3, 0, none⟩)), (5, .pointer (some ⟨b4, 0, none⟩))]) (fun w => [pt b3 (cel (bxLo p q).cs 49), pt b4 (cel (bxHi p q).cs 49), pt b1 (cel p.cs 49), pt b2 (cel q.cs 49), J]) (fun w => mnI p.z q.z ≤ w ∧ w ≤ mxI p.z q.z + 1) (fun w => (mxI p.z q.z + 1 - w).toNat) (mnI p.z q.z) ⟨Int.le_refl _, by omega⟩ (by repeat' constructor) (Pk.drop (by repeat' constructor)) ?_
   rintro z ⟨hz1, hz2⟩
   refine SP.seq ?_
   refine SP.r2 ?_
   refine XL.m ?_
   refine XL.f ?_
   refine XL.l ?_
   refine XL.leq_s rfl rfl rfl (fun cz => ?_) (fun cz => ?_)
   ·refine XL.n2 ?_
    refine SP.t ?_
    refine SP.skip ?_
    refine Jp.then_normal ?_
    refine SP.seq ?_
    refine SP.block ?_
    refine SP.r2 ?_
    refine XL.f ?_
    refine XL.l ?_
    refine XL.a ?_
    refine XL.n2 ?_
    refine SP.block ?_
    refine SP.loop (X := Int) (fun w => [(10, .int .i64 w), (9, .int .i64 z), (8, .int .i64 y), (0, .func (.yield l) #[] #[]), (4, .pointer (some ⟨b3, 0, none⟩)), (5, .pointer (some ⟨b4, 0, none⟩))]) (fun w => [pt b3 (cel (bxLo p q).cs 49), pt b4 (cel (bxHi p q).cs 49), pt b1 (cel p.cs 49), pt b2 (cel q.cs 49), J]) (fun w => mnI p.x q.x ≤ w ∧ w ≤ mxI p.x q.x + 1) (fun w => (mxI p.x q.x + 1 - w).toNat) (mnI p.x q.x) ⟨Int.le_refl _, by omega⟩ (by repeat' constructor) (Pk.drop (by repeat' constructor)) ?_
    rintro x ⟨hx1, hx2⟩
    refine SP.seq ?_
    refine SP.r2 ?_
    refine XL.m ?_
    refine XL.f ?_
    refine XL.l ?_
    refine XL.leq_s rfl rfl rfl (fun cx => ?_) (fun cx => ?_)
    ·refine XL.n2 ?_
     refine SP.t ?_
     refine SP.skip ?_
     refine Jp.then_normal ?_
     refine SP.seq ?_
     refine SP.block ?_
     refine SP.seq ?_
     refine SP.regionY (m + 1) 5 rfl (by kernel_rfl) ?_
     refine XL.m ?_
     refine XL.m ?_
     refine XL.m ?_
     refine XL.m ?_
     refine XL.build (by rfl) (by rfl) ?_
     refine XL.nil ?_
     refine Jp.yield (m := m) rfl rfl (hY ⟨x, y, z⟩ (box_may hb (by omega) (by omega) (by omega))) (by repeat' constructor) rfl (by kernel_rfl) ?_
     rintro _ _ ⟨rfl, rfl⟩
     refine XL.app1 ?_
     refine XL.not_t rfl rfl ?_
     refine XL.nil ?_
     refine Jp.inNil ?_
     refine Jp.then_normal ?_
     refine SP.f ?_
     refine SP.skip ?_
     refine Jp.block_normal ?_
     refine Jp.then_normal ?_
     refine SP.region ?_
     refine XL.m ?_
     refine XL.add_i64 rfl rfl (by omega) (by omega) rfl ?_
     refine XL.a ?_
     refine XL.nil ?_
     refine Jp.rd (x + 1) ⟨by omega, by omega⟩ (by omega)
    ·refine XL.n2 ?_
     refine SP.f ?_
     refine SP.exit ?_
     refine Jp.then_exit ?_
     refine Jp.then_exit ?_
     refine Jp.block_here ?_
     refine Jp.block_normal ?_
     refine Jp.then_normal ?_
     refine SP.region ?_
     refine XL.m ?_
     refine XL.add_i64 rfl rfl (by omega) (by omega) rfl ?_
     refine XL.a ?_
     refine XL.nil ?_
     refine Jp.rd (z + 1) ⟨by omega, by omega⟩ (by omega)
   ·refine XL.n2 ?_
    refine SP.f ?_
    refine SP.exit ?_
    refine Jp.then_exit ?_
    refine Jp.then_exit ?_
    refine Jp.block_here ?_
    refine Jp.block_normal ?_
    refine Jp.then_normal ?_
    refine SP.region ?_
    refine XL.m ?_
    refine XL.add_i64 rfl rfl (by omega) (by omega) rfl ?_
    refine XL.a ?_
    refine XL.nil ?_
    refine Jp.rd (y + 1) ⟨by omega, by omega⟩ (by omega)
  ·refine XL.n2 ?_
   refine SP.f ?_
   refine SP.exit ?_
   refine Jp.then_exit ?_
   refine Jp.then_exit ?_
   refine Jp.block_here ?_
   refine Jp.scope_normal ?_
   exact Jp.go (Pk.drop (Γ1 := [pt b1 (cel p.cs 49), pt b2 (cel q.cs 49), J]) (by repeat' constructor)) (Jp.end0 (.inl rfl) rfl ⟨rfl, rfl⟩)
 ·refine XL.neq_t rfl rfl he rfl ?_
  refine XL.n2 ?_
  refine SP.t ?_
  refine SP.ret ?_
  refine Jp.then_ret ?_
  refine Jp.scope_ret ?_
  exact Jp.go (Pk.drop (Γ1 := [pt b1 (cel p.cs 49), pt b2 (cel q.cs 49), J]) (by repeat' constructor)) (Jp.end0 (.inr rfl) rfl ⟨rfl, rfl⟩)
end Go.Proofs

namespace Go.Proofs
open Go.Bk
theorem c29 (m r : Nat) (s : St) (g : Fld) (hs : StOk s) (p q : Pl) (c : C2) (hc : C2.rng c) : Tri Tryz.prog 29 [.iface 24 (mp m), mp m, plv p, plv q, c2v c] [Mb m r s, FieldR r g] (fun v Γ' => ∃ (s' : St) (g' : Fld) (e : Int), v = .int .i64 e ∧ Kp s g s' g' ∧ Γ' = [Mb m r s', FieldR r g']) := by
 refine PcallsM 3 (n := 57) Tryz.func29 rfl rfl rfl fun W0 H0 => ?_
 refine SP.r2 ?_
 refine XL.box rfl rfl rfl (fun b1 => ?_)
 refine XL.box rfl rfl rfl (fun b2 => ?_)
 refine XL.boxA rfl rfl (fun b3 => ?_)
 refine XL.boxA rfl rfl (fun b4 => ?_)
 refine XL.boxA rfl rfl (fun b5 => ?_)
 refine XL.a ?_
 refine XL.n5 ?_
 refine SP.r2 ?_
 refine XL.l ?_
 refine XL.innil_eql rfl Tryz.underlying82 rfl ?_
 refine XL.m ?_
 refine XL.g ?_
 refine XL.l ?_
 refine XL.g ?_
 refine XL.pnnil_eql rfl rfl ?_
 refine XL.pick_f rfl rfl rfl ?_
 refine XL.n2 ?_
 refine SP.f ?_
 refine SP.skip ?_
 refine Jp.n4 ?_
 refine XL.lA ?_
 refine XL.lA ?_
 obtain ⟨lo, hi, n, e, hbx, hbe⟩ := c51 p q
 refine XL.cp rfl hbx rfl ?_
 refine XL.m ?_
 refine XL.x ?_
 refine XL.x ?_
 refine XL.x ?_
 refine XL.x ?_
 refine XL.alloc (by rfl) (fun b6 => ?_)
 refine XL.alloc (by rfl) (fun b7 => ?_)
 refine XL.sA ?_
 refine XL.sA ?_
 refine XL.a ?_
 refine XL.a ?_
 refine XL.n5 ?_
 refine SP.block ?_
 refine SP.r2 ?_
 refine XL.m ?_
 refine XL.eql_s rfl rfl rfl (fun h10 => ?_) (fun h10 => ?_)
 ·refine XL.a ?_
  refine XL.n2 ?_
  refine SP.t ?_
  refine SP.r2 ?_
  refine XL.m ?_
  refine XL.a ?_
  refine XL.n2 ?_
  refine SP.ret ?_
  refine Jp.block_ret ?_
  refine Jp.then_ret ?_
  exact Jp.marks 3 (.inr rfl) (Jp.go (Pk.drop (Γ1 := [Mb m r s, FieldR r g]) (by repeat' constructor)) (Jp.end1 (.inr rfl) rfl rfl ⟨s, g, _, rfl, Kp.refl s g, rfl⟩))
 ·refine XL.a ?_
  refine XL.n2 ?_
  refine SP.f ?_
  refine SP.r2 ?_
  refine XL.lA ?_
  refine XL.cs rfl (c49 c.a c.b hc.1 hc.2.1 hc.2.2.1 hc.2.2.2) rfl (fun hm => ?_) (fun hm => ?_)
  ·refine XL.not_t rfl rfl ?_
   refine XL.a ?_
   refine XL.n2 ?_
   refine SP.f ?_
   refine SP.r2 ?_
   refine XL.m ?_
   refine XL.neq_s rfl rfl rfl (fun he => ?_) (fun he => ?_)
   ·refine XL.a ?_
    refine XL.n2 ?_
    refine SP.t ?_
    refine SP.r2 ?_
    refine XL.m ?_
    refine XL.a ?_
    refine XL.n2 ?_
    refine SP.ret ?_
    refine Jp.block_ret ?_
    refine Jp.then_ret ?_
    exact Jp.marks 3 (.inr rfl) (Jp.go (Pk.drop (Γ1 := [Mb m r s, FieldR r g]) (by repeat' constructor)) (Jp.end1 (.inr rfl) rfl rfl ⟨s, g, _, rfl, Kp.refl s g, rfl⟩))
   ·refine XL.a ?_
    refine XL.n2 ?_
    refine SP.f ?_
    refine SP.skip ?_
    refine Jp.block_normal ?_
    refine Jp.then_normal ?_
    refine SP.seq ?_
    refine SP.r2 ?_
    refine XL.lA ?_
    refine XL.lA ?_
    refine XL.cw rfl (c52 p q) (Pk.nil _) rfl ?_
    rintro _ _ ⟨b8, b9, rfl, rfl⟩
    refine XL.app2 ?_
    refine XL.n2 ?_
    refine SP.block ?_
    refine SP.gam (ExA.close (c := fun y : St × Fld => Kp s g y.1 y.2) (E := fun y => [Mb m r y.1, FieldR r y.2]) (x := (s, g)) (by repeat' constructor) (Kp.refl s g)) ?_
    refine SP.ranged (α := Pl) (enc := plv) (c := MayQ) (m := 2) (Γ1 := [pt b8 (cel p.cs 49), pt b9 (cel q.cs 49)]) (Δ := [pt b1 (cel [.iface 24 (mp m)] 82), pt b2 (cel [mp m] 44), pt b5 (cel c.cs 51), ExA (fun y : St × Fld => Kp s g y.1 y.2) (fun y => [Mb m r y.1, FieldR r y.2])]) rfl (by repeat' constructor) ?_ ?_ ?_
    ·intro fn tmps D l hfit x hx
     refine TriY.round (fun b => [(15, .pointer (some ⟨b, 0, none⟩)), (5, .pointer (some ⟨b1, 0, none⟩)), (6, .pointer (some ⟨b2, 0, none⟩)), (9, .pointer (some ⟨b5, 0, none⟩))]) (fun b => [pt b (cel x.cs 49), pt b1 (cel [.iface 24 (mp m)] 82), pt b2 (cel [mp m] 44), pt b5 (cel c.cs 51), ExA (fun y : St × Fld => Kp s g y.1 y.2) (fun y => [Mb m r y.1, FieldR r y.2])]) hfit rfl ?_ ?_
     ·intro W1 H1
      refine SPr.region (by kernel_rfl) ?_
      refine XL.alloc (by rfl) (fun bx => ?_)
      refine XL.sA ?_
      refine XL.nil ?_
      refine Jp.inNil ?_
      exact Jp.then_k fun a w f st => ⟨bx, f.sub (by repeat' constructor), st.mono (Pk.drop (by repeat' constructor))⟩
     ·intro W1 H1 bx
      refine SPr.block ?_
      refine SPr.seq ?_
      refine SPr.region (by kernel_rfl) ?_
      refine XL.openEx (by repeat' constructor) (fun y hy => ?_)
      refine XL.app2 ?_
      refine XL.l ?_
      refine XL.lA ?_
      refine XL.ir (r := (y.2.cell x).v) rfl rfl (F_Cell m r y.1 y.2 x hx) (by repeat' constructor) rfl ?_
      refine XL.field (by rfl) (by rfl) ?_
      refine XL.neq_s rfl rfl rfl (fun hn => ?_) (fun hn => ?_)
      ·refine XL.nil ?_
       refine Jp.inNil ?_
       refine Jp.then_r ?_
       refine SPr.cond_t rfl ?_
       refine SPr.region (by kernel_rfl) ?_
       refine XL.l ?_
       refine XL.l ?_
       refine XL.build (by rfl) (by rfl) ?_
       refine XL.lA ?_
       refine XL.lA ?_
       refine XL.cw rfl (c50 m r y.1 y.2 x hx c hc (hy.ok hs).now) (by repeat' constructor) rfl ?_
       rintro _ _ ⟨rfl, s2, g2, hE, rfl⟩
       refine XL.app2 ?_
       refine XL.closeEx (c := fun y : St × Fld => Kp s g y.1 y.2) (E := fun y => [Mb m r y.1, FieldR r y.2]) (x := (s2, g2)) (hy.trans hE.kp) (by repeat' constructor) ?_
       refine XL.nil ?_
       refine Jp.inNil ?_
       refine Jp.block_normal ?_
       exact Jp.nrm (Pk.drop (by repeat' constructor))
      ·refine XL.nil ?_
       refine Jp.inNil ?_
       refine Jp.then_r ?_
       refine SPr.cond_f rfl ?_
       refine SPr.skip ?_
       refine Jp.block_normal ?_
       refine Jp.gam (ExA.close (c := fun y : St × Fld => Kp s g y.1 y.2) (E := fun y => [Mb m r y.1, FieldR r y.2]) (x := y) (by repeat' constructor) hy) ?_
       exact Jp.nrm (Pk.drop (by repeat' constructor))
    ·intro l J hY
     exact c75 2 l b8 b9 p q J hY
    ·intro a w D f st
     obtain ⟨y, hy, st2⟩ := st.openEx (c := fun y : St × Fld => Kp s g y.1 y.2) (E := fun y => [Mb m r y.1, FieldR r y.2]) (by repeat' constructor)
     have st3 : Wd W0 H0 [pt D (.deferred (some [])), Mb m r y.1, FieldR r y.2] w := st2.mono (Pk.drop (by repeat' constructor))
     refine wp_seq (wp_region_lit ?_)
     unfold wpList
     rw [if_pos (wanted_none rfl _)]
     left
     unfold Oper.wp
     refine wp_ret ?_
     exact leaves_mark (t := 10) (v := .int .i64 0) rfl ⟨(f.put 10 (.int .i64 0) rfl).size, rfl, (f.put 10 (.int .i64 0) rfl).get⟩ rfl st3 ⟨y.1, y.2, 0, rfl, hy, rfl⟩
  ·refine XL.not_f rfl rfl ?_
   refine XL.a ?_
   refine XL.n2 ?_
   refine SP.t ?_
   refine SP.r2 ?_
   refine XL.a ?_
   refine XL.n2 ?_
   refine SP.ret ?_
   refine Jp.block_ret ?_
   refine Jp.then_ret ?_
   exact Jp.marks 3 (.inr rfl) (Jp.go (Pk.drop (Γ1 := [Mb m r s, FieldR r g]) (by repeat' constructor)) (Jp.end1 (.inr rfl) rfl rfl ⟨s, g, _, rfl, Kp.refl s g, rfl⟩))
theorem fillC : FillC := fun m r s g hs p q c hc => c29 m r s g hs p q c hc
end Go.Proofs

namespace Go.Proofs
open Go.Bk Go.RowKit
theorem Tryz.own1 : ownKnob Tryz.prog.godebug = none := by kernel_rfl
theorem Tryz.laid1 : laidOutB Tryz.prog = true := by kernel_rfl
theorem Tryz.ce3 : Tryz.prog.cellsOf 3 = 1 := by kernel_rfl
theorem Tryz.ce5 : Tryz.prog.cellsOf 5 = 1 := by kernel_rfl
theorem Tryz.ce49 : Tryz.prog.cellsOf 49 = 3 := by kernel_rfl
theorem Tryz.ce51 : Tryz.prog.cellsOf 51 = 2 := by kernel_rfl
theorem Tryz.ce58 : Tryz.prog.cellsOf 58 = 10 := by kernel_rfl
theorem Tryz.by58 : Tryz.prog.bytesOf 58 = 72 := by kernel_rfl
section
variable {H : Type} {enc : TypeId × Value → H} {w : World} {base n : Nat} {spare : Nat → Bool} {held : Bool} {cs : List Value} {x : DataW H × List MemPlace}
theorem some_at {α : Type} {xs : List α} {k i : Nat} (h : xs.length = k) (hi : i < k) : ∃ y, xs[i]? = some y := ⟨_, List.getElem?_eq_getElem (by omega)⟩
set_option maxRecDepth 100000 in
theorem pl_open (h : DataW.trod enc Tryz.prog w base spare held n 49 cs = some x) : ∃ p : Pl, cs = p.cs := by
 obtain ⟨xs, m, _, _, hl, hxl, hf⟩ := DataW.trod_struct Tryz.underlying49 h
 rw [Tryz.ce49] at hl
 match cs, hl with
 | [a, b, c], _ =>
  have e0 : DataW.trod enc Tryz.prog w base spare held m 3 (([a, b, c].drop 0).take (Tryz.prog.cellsOf 3)) = xs[0]? := hf 0 _ rfl
  have e1 : DataW.trod enc Tryz.prog w base spare held m 3 (([a, b, c].drop 1).take (Tryz.prog.cellsOf 3)) = xs[1]? := hf 1 _ rfl
  have e2 : DataW.trod enc Tryz.prog w base spare held m 3 (([a, b, c].drop 2).take (Tryz.prog.cellsOf 3)) = xs[2]? := hf 2 _ rfl
  obtain ⟨y0, g0⟩ := some_at hxl (i := 0) (by decide)
  obtain ⟨y1, g1⟩ := some_at hxl (i := 1) (by decide)
  obtain ⟨y2, g2⟩ := some_at hxl (i := 2) (by decide)
  rw [g0] at e0; rw [g1] at e1; rw [g2] at e2
  rw [Tryz.ce3] at e0 e1 e2
  obtain ⟨k0, h0, _, _⟩ := DataW.trod_int Tryz.underlying3 e0
  obtain ⟨k1, h1, _, _⟩ := DataW.trod_int Tryz.underlying3 e1
  obtain ⟨k2, h2, _, _⟩ := DataW.trod_int Tryz.underlying3 e2
  simp at h0 h1 h2
  subst h0; subst h1; subst h2
  exact ⟨⟨k0, k1, k2⟩, rfl⟩
set_option maxRecDepth 100000 in
theorem u8_rng {k : Int} (h : (Lit.int .u8 k).wf = true) : 0 ≤ k ∧ k ≤ 255 := by
 simp [Lit.wf, IntKind.min, IntKind.max, IntKind.bits, IntKind.signed] at h
 omega
set_option maxRecDepth 100000 in
theorem c2_open (h : DataW.trod enc Tryz.prog w base spare held n 51 cs = some x) : ∃ p : C2, cs = p.cs ∧ C2.rng p := by
 obtain ⟨xs, m, _, _, hl, hxl, hf⟩ := DataW.trod_struct Tryz.underlying51 h
 rw [Tryz.ce51] at hl
 match cs, hl with
 | [a, b], _ =>
  have e0 : DataW.trod enc Tryz.prog w base spare held m 5 (([a, b].drop 0).take (Tryz.prog.cellsOf 5)) = xs[0]? := hf 0 _ rfl
  have e1 : DataW.trod enc Tryz.prog w base spare held m 5 (([a, b].drop 1).take (Tryz.prog.cellsOf 5)) = xs[1]? := hf 1 _ rfl
  obtain ⟨y0, g0⟩ := some_at hxl (i := 0) (by decide)
  obtain ⟨y1, g1⟩ := some_at hxl (i := 1) (by decide)
  rw [g0] at e0; rw [g1] at e1
  rw [Tryz.ce5] at e0
  obtain ⟨k0, h0, _, w0⟩ := DataW.trod_int Tryz.underlying5 e0
  rw [Tryz.ce5] at e1
  obtain ⟨k1, h1, _, w1⟩ := DataW.trod_int Tryz.underlying5 e1
  simp at h0 h1
  subst h0; subst h1
  exact ⟨⟨k0, k1⟩, rfl, (u8_rng w0).1, (u8_rng w0).2, (u8_rng w1).1, (u8_rng w1).2⟩
set_option maxRecDepth 100000 in
theorem op_open (h : DataW.trod enc Tryz.prog w base spare held n 58 cs = some x) : ∃ o : OpR, cs = o.cs ∧ C2.rng o.c := by
 obtain ⟨xs, m, _, _, hl, hxl, hf⟩ := DataW.trod_struct Tryz.underlying58 h
 rw [Tryz.ce58] at hl
 match cs, hl with
 | [a0, a1, a2, a3, a4, a5, a6, a7, a8, a9], _ =>
  have e0 : DataW.trod enc Tryz.prog w base spare held m 3 (([a0, a1, a2, a3, a4, a5, a6, a7, a8, a9].drop 0).take (Tryz.prog.cellsOf 3)) = xs[0]? := hf 0 _ rfl
  have e1 : DataW.trod enc Tryz.prog w base spare held m 49 (([a0, a1, a2, a3, a4, a5, a6, a7, a8, a9].drop 1).take (Tryz.prog.cellsOf 49)) = xs[1]? := hf 1 _ rfl
  have e2 : DataW.trod enc Tryz.prog w base spare held m 49 (([a0, a1, a2, a3, a4, a5, a6, a7, a8, a9].drop 4).take (Tryz.prog.cellsOf 49)) = xs[2]? := hf 2 _ rfl
  have e3 : DataW.trod enc Tryz.prog w base spare held m 51 (([a0, a1, a2, a3, a4, a5, a6, a7, a8, a9].drop 7).take (Tryz.prog.cellsOf 51)) = xs[3]? := hf 3 _ rfl
  have e4 : DataW.trod enc Tryz.prog w base spare held m 3 (([a0, a1, a2, a3, a4, a5, a6, a7, a8, a9].drop 9).take (Tryz.prog.cellsOf 3)) = xs[4]? := hf 4 _ rfl
  obtain ⟨y0, g0⟩ := some_at hxl (i := 0) (by decide)
  obtain ⟨y1, g1⟩ := some_at hxl (i := 1) (by decide)
  obtain ⟨y2, g2⟩ := some_at hxl (i := 2) (by decide)
  obtain ⟨y3, g3⟩ := some_at hxl (i := 3) (by decide)
  obtain ⟨y4, g4⟩ := some_at hxl (i := 4) (by decide)
  rw [g0] at e0; rw [g1] at e1; rw [g2] at e2; rw [g3] at e3; rw [g4] at e4
  rw [Tryz.ce3] at e0 e4
  rw [Tryz.ce49] at e1 e2
  rw [Tryz.ce51] at e3
  obtain ⟨k0, h0, _, _⟩ := DataW.trod_int Tryz.underlying3 e0
  obtain ⟨k4, h4, _, _⟩ := DataW.trod_int Tryz.underlying3 e4
  obtain ⟨p, hp⟩ := pl_open e1
  obtain ⟨q, hq⟩ := pl_open e2
  obtain ⟨c, hc, hr⟩ := c2_open e3
  simp at h0 h4 hp hq hc
  obtain ⟨rfl, rfl, rfl⟩ := hp
  obtain ⟨rfl, rfl, rfl⟩ := hq
  obtain ⟨rfl, rfl⟩ := hc
  subst h0; subst h4
  exact ⟨⟨k0, p, q, c, k4⟩, rfl, hr⟩
end
theorem un_e (h : Hp) : h = un h (fun _ => none) := by funext b; unfold un; cases h b <;> rfl
theorem below_of {W W' : World} {h : Hp} {A : Asn} (ag : Agr W h) (hA : ∀ k, A k → ∀ b o, h b = some o → k b = some o) (s : Wd W h [A] W') : Below W.heap.size W W' := by
 obtain ⟨h', ⟨h1, h2, e, d, a, _⟩, ag', fr⟩ := s
 refine ⟨fr.os, fr.tape, fr.output, fr.size, fun k hk => ?_⟩
 cases hh : h k with
 | none => exact fr.old k hk hh
 | some o => rw [ag k o hh]; exact ag' k o (by rw [e]; exact un_left (hA h1 a k o hh))
theorem run_n (a : Int) (a0 : Option Addr) (cl : Nat) (W : World) : Calls Tryz.prog 3 #[.int .u64 a, .slice a0 0 cl] W fun e W' => e = .returned (.bool true) ∧ Below W.heap.size W W' := by
 have t := c3n fillC a a0 cl [] (by simp) rfl (fun o ho => absurd ho (by simp))
 have ag : Agr W (fun _ => none) := fun b o h => by cases h
 refine (t W (fun _ => none) ⟨fun _ => none, fun _ => none, by funext b; rfl, fun b => .inl rfl, trivial, trivial⟩ ag).mono fun e W' ⟨v, Γ', he, ⟨hv, hΓ⟩, hW⟩ => ?_
 subst hv; subst hΓ
 exact ⟨he, below_of ag (fun k _ b o h => by cases h) hW⟩
theorem run_b (a : Int) (b off T cap : Nat) (fr : Nat × Nat) (c : Array Value) (l : List OpR) (hn : l.length ≤ 2000000000000) (W : World) (hb : W.heap[b]? = some (.cells c T fr)) (hcs : ∀ i x, l[i]? = some x → SbL c.toList (off + i * 10) 10 x.cs) (hr : ∀ o ∈ l, C2.rng o.c) :
  Calls Tryz.prog 3 #[.int .u64 a, .slice (some ⟨b, off, none⟩) l.length cap] W fun e W' => e = .returned (.bool true) ∧ Below W.heap.size W W' := by
 have t := c3b fillC a b off T cap fr c.toList l hn hcs hr
 have ag : Agr W (fun k => if k = b then some (.cells c T fr) else none) := fun k o h => by
  by_cases e : k = b
  ·subst e; have h' : some (Obj.cells c T fr) = some o := by simpa using h
   cases h'; exact hb
  ·simp [e] at h
 refine (t W (fun k => if k = b then some (.cells c T fr) else none) ⟨fun k => if k = b then some (.cells c T fr) else none, fun _ => none, un_e _, fun k => .inr rfl, ?_, trivial⟩ ag).mono fun e W' ⟨v, Γ', he, ⟨hv, hΓ⟩, hW⟩ => ?_
 ·show (if b = b then some (Obj.cells c T fr) else none) = some (Obj.cells c.toList.toArray T fr)
  rw [if_pos rfl]
 ·subst hv; subst hΓ
  refine ⟨he, below_of ag (fun k hk k' o h => ?_) hW⟩
  by_cases e : k' = b
  ·subst e; have h' : some (Obj.cells c T fr) = some o := by simpa using h
   cases h'
   have hk2 : k k' = some (Obj.cells c.toList.toArray T fr) := hk
   simpa using hk2
  ·simp [e] at h
end Go.Proofs

namespace Go.Proofs.YtebkegcjgkkcgaaGreat
open Go.ChangeShapes Go.WideShapes Go.ChangeAt Go.RowKit Go.Bk
instance : Inhabited OpR := ⟨⟨0, ⟨0, 0, 0⟩, ⟨0, 0, 0⟩, ⟨0, 0⟩, 0⟩⟩
set_option maxRecDepth 100000 in
theorem law_lifted (os : Os) (started : os.Started) (H : Type) (enc : TypeId × Value → H) :
  ReturnsInHanded {} Tryz.checked os 3 .any (Rows.modelLedgerSpec.pre6 enc Tryz.prog Tryz.f3 Rows.modelLedgerRow.domain false) (Rows.modelLedgerSpec.post enc Tryz.prog Tryz.f3 false true false false) := by
 refine returnsInHanded_of_change_sized (C := Tryz.checked) Tryz.own1 started (by kernel_rfl) Tryz.func3
  (ChangeSpec.witness6 (enc := enc) (C := Tryz.checked) false ⟨#[], #[.int .u64 0, .slice none 0 0], []⟩ 8 (by kernel_rfl) (by kernel_rfl) (by kernel_rfl) (by kernel_rfl)) ?_
 intro W base args ds gs before hval0 hW _ hsz0 _
 have hsz : (DataW.weightsEach Tryz.prog (Tryz.f3.params.toList ++ Rows.modelLedgerSpec.plain.varTypes Tryz.prog) (ds ++ gs)).all (· ≤ reachBytes) = true := hsz0
 clear hsz0
 have hval : ∀ (j : Nat) t v, Tryz.f3.params[j]? = some t → args[j]? = some v → Value.okWide Tryz.prog W .any base t v := hval0
 have hW' := hW
 obtain ⟨p, q, hA0, hV, rfl, _, _⟩ := hW
 have hA : DataW.TrodAll enc Tryz.prog W 0 (fun _ => true) true Tryz.f3.params.toList args.toList ds p := hA0
 rw [Tryz.params3] at hA hval hsz
 obtain ⟨v0, v1, d0, d1, p0, p1, rfl, rfl, rfl, h0, h1⟩ := trodAll_two hA
 obtain ⟨rfl, rfl⟩ := trodVars_none hV
 obtain ⟨a, rfl, rfl, rfl, wa⟩ := open_int Tryz.underlying22 (hval 0 22 v0 rfl rfl) h0
 obtain ⟨a0, len, cap, rfl⟩ := okWide_slice Tryz.underlying23 (hval 1 23 v1 rfl rfl)
 have h1k := h1
 obtain ⟨fuel, hf⟩ := h1
 clear hA0 hval0
 have hlt : ∀ x ∈ p1, x.block < W.heap.size := fun x hx => by
  have := hW'.lt x (by simp [hx])
  simpa using this
 have hargs : ∀ (W' : World), Below W.heap.size W W' → DataW.Trod enc Tryz.prog W' 0 (fun b => decide (b < W.heap.size)) true 23 (.slice a0 len cap) d1 p1 :=
  fun W' hn => Below.trod Tryz.laid1 (by kernel_rfl) (of_decide_eq_true (by kernel_rfl)) h1k hn hlt
 have fin : ∀ e W', (e = Ending.returned (.bool true) ∧ Below W.heap.size W W') →
   ∃ v, e = Ending.returned v ∧ Rows.modelLedgerSpec.post enc Tryz.checked.prog Tryz.f3 false true false false W #[.int .u64 a, .slice a0 len cap] v W' := by
  intro e W' ⟨he, hnx⟩
  subst he
  refine ⟨_, rfl, _, _, _, [], [] ++ p1, [], hW', ?_, ?_, rfl, hnx.frame _, fun h => by cases h⟩
  ·exact trodAll_mk1 (shut_bool Tryz.underlying4 true)
  ·exact trodAll_mk2 (shut_int Tryz.underlying22 wa) (hargs _ hnx)
 rcases Go.Deep.open_slice Tryz.underlying23 hf with ⟨hcs, hx⟩ | ⟨ad, len', cap', m, n, D, Pl, hcs, _, hl, hm, hmm, hx, hcell⟩
 ·simp [Value.cells] at hcs
  obtain ⟨rfl, rfl, rfl⟩ := hcs
  exact (run_n a none 0 W).mono fin
 ·simp [Value.cells] at hcs
  obtain ⟨rfl, rfl, rfl⟩ := hcs
  have hmm2 : m = cap := hmm
  clear hmm
  by_cases hl0 : len = 0
  ·subst hl0
   exact (run_n a (some ad) cap W).mono fin
  ·simp only [Prod.mk.injEq] at hx
   obtain ⟨rfl, rfl⟩ := hx
   have hreach : len * 72 ≤ 140737488351232 := by
    have := sized_slice hsz (j := 1) (t := 23) (e := 58) rfl rfl Tryz.underlying23
    rw [Tryz.by58] at this
    simp only [List.length_map, List.length_range, reachBytes] at this
    omega
   obtain ⟨V, hV⟩ := Go.Deep.choose_lt (α := OpR) (n := len) (p := fun i (o : OpR) => (∀ j, j < 10 → W.cell? ((ad.add (i * 10)).add j) = o.cs[j]?) ∧ C2.rng o.c) (fun i hi => by
    obtain ⟨cs', g1, g2⟩ := hcell i (by omega)
    rw [Tryz.ce58] at g1
    obtain ⟨_, g3, g4⟩ := World.cells?_some g1
    obtain ⟨o, ho, hr⟩ := op_open g2
    exact ⟨o, fun j hj => by rw [g4 j hj, ho], hr⟩)
   obtain ⟨b, off, spot⟩ := ad
   have h00 : W.cell? (((⟨b, off, spot⟩ : Addr).add (0 * 10)).add 0) = some (.int .i64 (V 0).kind) := (hV 0 (by omega)).1 0 (by decide)
   have hspot : spot = none := by simpa [Addr.add] using World.cell?_spot h00
   subst hspot
   obtain ⟨c, T, fr, hb⟩ : ∃ c T fr, W.heap[b]? = some (.cells c T fr) := by
    rw [show ((⟨b, off, none⟩ : Addr).add (0 * 10)).add 0 = ⟨b, off, none⟩ by simp [Addr.add]] at h00
    unfold World.cell? at h00
    cases hh : W.heap[b]? with
    | none => simp [hh] at h00
    | some o => cases o <;> simp [hh] at h00 <;> exact ⟨_, _, _, rfl⟩
   have hat : ∀ k, W.cell? ⟨b, off + k, none⟩ = c.toList[off + k]? := fun k => by
    have := cell_ofI (w := W) (b := b) (cs := c.toList) (T := T) (fr := fr) (by simpa using hb) (off + k)
    exact this
   have hlen : ((List.range len).map V).length = len := by simp
   have := run_b a b off T cap fr c ((List.range len).map V) (by rw [hlen]; omega) W hb (fun i x hx => by
    have hi : i < len := by
     have := (List.getElem?_eq_some_iff.1 hx).1
     rwa [hlen] at this
    have hxe : x = V i := by
     rw [List.getElem?_map, List.getElem?_range hi] at hx
     exact (Option.some.inj hx).symm
    subst hxe
    have hc : ∀ j, j < 10 → c.toList[off + i * 10 + j]? = (V i).cs[j]? := fun j hj => by
     have g := (hV i hi).1 j hj
     rw [add_none, add_none] at g
     rw [← g, Nat.add_assoc, hat, ← Nat.add_assoc]
    refine ⟨?_, ?_⟩
    ·have g := hc 9 (by decide)
     have g2 := (List.getElem?_eq_some_iff.1 (g.trans (show (V i).cs[9]? = some (.int .i64 (V i).n) from rfl))).1
     omega
    ·refine List.ext_getElem? fun j => ?_
     by_cases hj : j < 10
     ·rw [List.getElem?_take_of_lt hj, List.getElem?_drop]; exact hc j hj
     ·rw [List.getElem?_eq_none (by simp; omega), List.getElem?_eq_none (by simp; omega)]) (fun o ho => by
    obtain ⟨i, hi, rfl⟩ := List.mem_map.1 ho
    exact (hV i (List.mem_range.1 hi)).2)
   rw [hlen] at this
   exact this.mono fin
theorem modelLedger_holds : Rows.ModelLedgerSaid :=
 OpenClaim.holds_of_wide 3 Tryz.f3 rfl rfl rfl rfl rfl rfl rfl ⟨rfl, rfl, rfl, rfl, rfl⟩ rfl rfl rfl rfl rfl (by kernel_rfl) Tryz.func3 (by kernel_rfl)
  (of_decide_eq_true (by kernel_rfl)) (by unfold Func.isWrapper; first | (rw [if_pos (by decide +kernel)]; kernel_rfl) | (rw [if_neg (by decide +kernel)]; exact ⟨rfl, rfl⟩))
  (fun os started H enc _ => law_lifted os started H enc)
#print axioms modelLedger_holds
end Go.Proofs.YtebkegcjgkkcgaaGreat

