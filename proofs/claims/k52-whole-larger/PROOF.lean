import PyProof.Rows.All
import Wide.All
import OpenK.AllK
import Wide.FinOn
import PyProof.EqAt
import PyProof.EqKinds
import PyProof.TupleCall
import HandS.ForMost
import HandS.ForExc
import HandS.TryMany
import HandS.Flt
import HandS.Wide
import HandS.IsInst
import HandS.Zip
import HandS.TupAny
import HandS.Rev
import PySem.Challenge.RW_turtlehouse_k52_whole_larger
set_option linter.all false
namespace TH
/-! ### The program's mirror: programs, runs, larger -/
structure Pt where
  ax : Int
  bx : Int
  ay : Int
  cy : Int
inductive Src where
  | count
  | n (k : Nat)
inductive Am where
  | lit (i : Int)
  | src (t : Int) (s : Src) (m : Int)
/-- a body: its first statement, and the rest -/
inductive B where
  | nil
  | go (a : Am) (r : B)
  | turn (a : Am) (r : B)
  | ink (a : Am) (r : B)
  | pen (d : Bool) (r : B)
  | mark (k : Int) (r : B)
  | back (k : Int) (r : B)
  | again (a : Am) (b r : B)
  | ite (a : Am) (b e r : B)
  | call (j : Nat) (as : List Am) (r : B)
def B.tail : B → B
  | .nil => .nil
  | .go _ r => r
  | .turn _ r => r
  | .ink _ r => r
  | .pen _ r => r
  | .mark _ r => r
  | .back _ r => r
  | .again _ _ r => r
  | .ite _ _ _ r => r
  | .call _ _ r => r
theorem B.tailInd {P : B → Prop} (h0 : P .nil) (hs : ∀ b, b ≠ .nil → P b.tail → P b) : ∀ b, P b
  | .nil => h0
  | .go a r => hs _ (fun z => nomatch z) (B.tailInd h0 hs r)
  | .turn a r => hs _ (fun z => nomatch z) (B.tailInd h0 hs r)
  | .ink a r => hs _ (fun z => nomatch z) (B.tailInd h0 hs r)
  | .pen a r => hs _ (fun z => nomatch z) (B.tailInd h0 hs r)
  | .mark a r => hs _ (fun z => nomatch z) (B.tailInd h0 hs r)
  | .back a r => hs _ (fun z => nomatch z) (B.tailInd h0 hs r)
  | .again a b r => hs _ (fun z => nomatch z) (B.tailInd h0 hs r)
  | .ite a b e r => hs _ (fun z => nomatch z) (B.tailInd h0 hs r)
  | .call j as r => hs _ (fun z => nomatch z) (B.tailInd h0 hs r)
structure Ctx where
  nums : List Int
  count : Int
def Src.val (c : Ctx) : Src → Int
  | .count => c.count
  | .n k => c.nums.getD k 0
def Am.val (c : Ctx) : Am → Int
  | .lit i => i
  | .src t s m => t * s.val c + m
structure Hd where
  spot : Pt
  head : Int
  down : Bool
  ink : Int
  marks : Int → Option (Pt × Int)
  strokes : List (Int × Pt × Pt)
  corners : List Pt
  turns : Int
  rest : Nat
  log : List Int
def origin : Pt := ⟨0, 0, 0, 0⟩
def Hd.init (M : Nat) : Hd := ⟨origin, 0, true, 0, fun _ => none, [], [origin], 0, M, []⟩
inductive Out where
  | ok (h : Hd)
  | stop (h : Hd)
  | nomark (h : Hd)
  | great
  | deep
def Out.bind : Out → (Hd → Out) → Out
  | .ok h, f => f h
  | .stop h, _ => .stop h
  | .nomark h, _ => .nomark h
  | .great, _ => .great
  | .deep, _ => .deep
def eastL : List Int := [1, 1, 0, -1, -1, -1, 0, 1]
def east (h : Int) : Int := eastL.getD h.toNat 0
def moved (p : Pt) (h v : Int) : Pt :=
  if h % 2 = 0 then ⟨p.ax + v * east h, p.bx + 0, p.ay + v * east ((h + 6) % 8), p.cy + 0⟩
  else ⟨p.ax + 0, p.bx + v * east h, p.ay + 0, p.cy + v * east ((h + 6) % 8)⟩
def Hd.go (h : Hd) (v : Int) : Hd :=
  { h with spot := moved h.spot h.head v, strokes := if h.down = true ∧ v ≠ 0 then h.strokes ++ [(h.ink, h.spot, moved h.spot h.head v)] else h.strokes,
           corners := h.corners ++ [moved h.spot h.head v], log := v :: h.log }
def Hd.turn (h : Hd) (v : Int) : Hd := { h with turns := h.turns + v, head := (h.head + v) % 8 }
def Hd.mark (h : Hd) (k : Int) : Hd := { h with marks := fun j => if j = k then some (h.spot, h.head) else h.marks j }
def Hd.back (h : Hd) (q : Pt × Int) : Hd := { h with spot := q.1, head := q.2, corners := h.corners ++ [q.1] }
def deed (h : Hd) (k : Hd → Out) : Out := if h.rest = 0 then .stop h else k { h with rest := h.rest - 1 }
def chk (v : Int) (o : Out) : Out := if v.natAbs > 1000000 then .great else o
def backO (h : Hd) : Option (Pt × Int) → Out
  | none => .nomark h
  | some q => .ok (h.back q)
def rounds (f : Int → Hd → Out) : Nat → Int → Hd → Out
  | 0, _, h => .ok h
  | n + 1, k, h => (deed h (f k)).bind (rounds f n (k + 1))
/-- the first statement's effect -/
def eff (W : List B) (rec : B → Ctx → Hd → Out) (c : Ctx) (h : Hd) : B → Out
  | .nil => .ok h
  | .go a _ => deed h fun h => chk (a.val c) (.ok (h.go (a.val c)))
  | .turn a _ => deed h fun h => chk (a.val c) (.ok (h.turn (a.val c)))
  | .ink a _ => deed h fun h => chk (a.val c) (.ok { h with ink := a.val c % 8 })
  | .pen d _ => deed h fun h => .ok { h with down := d }
  | .mark k _ => deed h fun h => .ok (h.mark k)
  | .back k _ => deed h fun h => backO h (h.marks k)
  | .again a b _ => deed h fun h => chk (a.val c) (rounds (fun k h => rec b ⟨c.nums, k⟩ h) (a.val c).toNat 0 h)
  | .ite a b e _ => deed h fun h => chk (a.val c) (if a.val c ≤ 0 then rec e c h else rec b c h)
  | .call j as _ => deed h fun h => if as.any (fun a => decide ((a.val c).natAbs > 1000000)) = true then .great else rec (W.getD j .nil) ⟨as.map (Am.val c), 0⟩ h
def seqB (f : Hd → B → Out) : B → Hd → Out
  | .nil, h => .ok h
  | .go a r, h => (f h (.go a r)).bind (seqB f r)
  | .turn a r, h => (f h (.turn a r)).bind (seqB f r)
  | .ink a r, h => (f h (.ink a r)).bind (seqB f r)
  | .pen a r, h => (f h (.pen a r)).bind (seqB f r)
  | .mark a r, h => (f h (.mark a r)).bind (seqB f r)
  | .back a r, h => (f h (.back a r)).bind (seqB f r)
  | .again a b r, h => (f h (.again a b r)).bind (seqB f r)
  | .ite a b e r, h => (f h (.ite a b e r)).bind (seqB f r)
  | .call j as r, h => (f h (.call j as r)).bind (seqB f r)
theorem seqB_cons (f : Hd → B → Out) (b : B) (hb : b ≠ .nil) (h : Hd) : seqB f b h = (f h b).bind (seqB f b.tail) := by
  cases b <;> first | exact absurd rfl hb | rfl
def run (W : List B) : Nat → B → Ctx → Hd → Out
  | 0 => fun _ _ _ => .deep
  | d + 1 => fun b c h => seqB (fun h b => eff W (run W d) c h b) b h
theorem run_succ (W : List B) (d : Nat) (b : B) (c : Ctx) (h : Hd) : run W (d + 1) b c h = seqB (fun h b => eff W (run W d) c h b) b h := rfl
/-! ### larger -/
def Am.times (F : Int) : Am → Am
  | .lit i => .lit (i * F)
  | .src t s m => .src (t * F) s (m * F)
def B.larger (F : Int) : B → B
  | .nil => .nil
  | .go a r => .go (a.times F) (r.larger F)
  | .turn a r => .turn a (r.larger F)
  | .ink a r => .ink a (r.larger F)
  | .pen d r => .pen d (r.larger F)
  | .mark k r => .mark k (r.larger F)
  | .back k r => .back k (r.larger F)
  | .again a b r => .again a (b.larger F) (r.larger F)
  | .ite a b e r => .ite a (b.larger F) (e.larger F) (r.larger F)
  | .call j as r => .call j as (r.larger F)
def Pt.sc (F : Int) (p : Pt) : Pt := ⟨p.ax * F, p.bx * F, p.ay * F, p.cy * F⟩
def scS (F : Int) (s : Int × Pt × Pt) : Int × Pt × Pt := (s.1, s.2.1.sc F, s.2.2.sc F)
def Hd.sc (F : Int) (h : Hd) : Hd :=
  { h with spot := h.spot.sc F, marks := fun k => (h.marks k).map fun q => (q.1.sc F, q.2), strokes := h.strokes.map (scS F), corners := h.corners.map (Pt.sc F), log := h.log.map (· * F) }
def Out.sc (F : Int) : Out → Out
  | .ok h => .ok (h.sc F)
  | .stop h => .stop (h.sc F)
  | .nomark h => .nomark (h.sc F)
  | .great => .great
  | .deep => .deep
theorem times_val (F : Int) (c : Ctx) (a : Am) : (a.times F).val c = a.val c * F := by
  cases a with
  | lit i => rfl
  | src t s m =>
    show t * F * s.val c + m * F = (t * s.val c + m) * F
    rw [Int.add_mul, Int.mul_assoc, Int.mul_assoc, Int.mul_comm F]
theorem larger_nil {F : Int} {b : B} : b.larger F = .nil ↔ b = .nil := by cases b <;> simp [B.larger]
theorem larger_tail {F : Int} (b : B) : (b.larger F).tail = b.tail.larger F := by cases b <;> rfl
theorem am_times_one (a : Am) : a.times 1 = a := by cases a <;> simp [Am.times]
theorem larger_one (b : B) : b.larger 1 = b := by induction b <;> simp_all [B.larger, am_times_one]
theorem moved_sc (F : Int) (p : Pt) (h v : Int) : moved (p.sc F) h (v * F) = (moved p h v).sc F := by
  have e : ∀ a z : Int, a * F + v * F * z = (a + v * z) * F := fun a z => by
    rw [Int.add_mul, Int.mul_assoc, Int.mul_assoc, Int.mul_comm F]
  unfold moved Pt.sc
  by_cases hh : h % 2 = 0
  · rw [if_pos hh, if_pos hh]
    simp only [e, Int.add_zero]
  · rw [if_neg hh, if_neg hh]
    simp only [e, Int.add_zero]
theorem go_sc {F : Int} (hF : 1 ≤ F) (h : Hd) (v : Int) : (h.sc F).go (v * F) = (h.go v).sc F := by
  have nz : v * F ≠ 0 ↔ v ≠ 0 := by
    constructor
    · intro z e; exact z (by rw [e, Int.zero_mul])
    · intro z e
      rcases Int.mul_eq_zero.mp e with q | q
      · exact z q
      · omega
  unfold Hd.go Hd.sc
  simp only [moved_sc, nz, List.map_append, List.map_cons, List.map_nil]
  by_cases hc : h.down = true ∧ v ≠ 0
  · rw [if_pos hc, if_pos hc]
    simp [scS]
  · rw [if_neg hc, if_neg hc]
theorem init_sc (F : Int) (M : Nat) : (Hd.init M).sc F = Hd.init M := by
  simp [Hd.init, Hd.sc, origin, Pt.sc]
/-! ### what the log bears -/
def Out.all (P : Hd → Prop) : Out → Prop
  | .ok h => P h
  | .stop h => P h
  | .nomark h => P h
  | .great => False
  | .deep => False
def Grows (h : Hd) : Out → Prop
  | .ok h' => ∀ v ∈ h.log, v ∈ h'.log
  | .stop h' => ∀ v ∈ h.log, v ∈ h'.log
  | .nomark h' => ∀ v ∈ h.log, v ∈ h'.log
  | .great => True
  | .deep => True
theorem Grows.refl (h : Hd) : Grows h (.ok h) := fun _ q => q
theorem Grows.bind {h : Hd} {o : Out} {f : Hd → Out} (a : Grows h o) (b : ∀ h', Grows h' (f h')) : Grows h (o.bind f) := by
  cases o with
  | ok h1 =>
    have q := b h1
    show Grows h (f h1)
    cases e : f h1 with
    | ok h2 => rw [e] at q; exact fun v z => q v (a v z)
    | stop h2 => rw [e] at q; exact fun v z => q v (a v z)
    | nomark h2 => rw [e] at q; exact fun v z => q v (a v z)
    | great => trivial
    | deep => trivial
  | stop h1 => exact a
  | nomark h1 => exact a
  | great => trivial
  | deep => trivial
theorem grows_deed {h : Hd} {f : Hd → Out} (b : ∀ h', Grows h' (f h')) : Grows h (deed h f) := by
  unfold deed
  split
  · exact fun _ q => q
  · have q := b { h with rest := h.rest - 1 }
    cases e : f { h with rest := h.rest - 1 } with
    | ok h2 => rw [e] at q; exact q
    | stop h2 => rw [e] at q; exact q
    | nomark h2 => rw [e] at q; exact q
    | great => trivial
    | deep => trivial
theorem grows_chk {h : Hd} {v : Int} {o : Out} (b : Grows h o) : Grows h (chk v o) := by
  unfold chk
  split
  · trivial
  · exact b
theorem grows_rounds {f : Int → Hd → Out} (b : ∀ k h, Grows h (f k h)) : ∀ (n : Nat) (k : Int) (h : Hd), Grows h (rounds f n k h)
  | 0, _, h => Grows.refl h
  | n + 1, k, h => Grows.bind (grows_deed (b k)) fun h' => grows_rounds b n (k + 1) h'
theorem grows_eff {W : List B} {rec : B → Ctx → Hd → Out} (hr : ∀ b c h, Grows h (rec b c h)) (c : Ctx) (h : Hd) (b : B) : Grows h (eff W rec c h b) := by
  cases b with
  | nil => exact Grows.refl h
  | go a r =>
    unfold eff
    refine grows_deed fun h' => ?_
    refine grows_chk ?_
    exact fun v q => List.mem_cons_of_mem _ q
  | turn a r =>
    unfold eff
    refine grows_deed fun h' => ?_
    refine grows_chk ?_
    exact fun v q => q
  | ink a r =>
    unfold eff
    refine grows_deed fun h' => ?_
    refine grows_chk ?_
    exact fun v q => q
  | pen d r =>
    unfold eff
    refine grows_deed fun h' => ?_
    exact fun v q => q
  | mark k r =>
    unfold eff
    refine grows_deed fun h' => ?_
    exact fun v q => q
  | back k r =>
    unfold eff
    refine grows_deed fun h' => ?_
    cases h'.marks k with
    | none => exact fun v q => q
    | some z => exact fun v q => q
  | again a b r =>
    unfold eff
    exact grows_deed fun h' => grows_chk (grows_rounds (fun k h => hr b _ h) _ _ _)
  | ite a b e r =>
    unfold eff
    refine grows_deed fun h' => grows_chk ?_
    split
    · exact hr _ _ _
    · exact hr _ _ _
  | call j as r =>
    unfold eff
    refine grows_deed fun h' => ?_
    split
    · trivial
    · exact hr _ _ _
theorem grows_seqB {f : Hd → B → Out} (hf : ∀ h b, Grows h (f h b)) (b : B) : ∀ h, Grows h (seqB f b h) := by
  induction b using B.tailInd with
  | h0 => exact fun h => Grows.refl h
  | hs b hb ih =>
    intro h
    rw [seqB_cons f b hb]
    exact Grows.bind (hf h b) ih
theorem grows_run (W : List B) : ∀ (d : Nat) (b : B) (c : Ctx) (h : Hd), Grows h (run W d b c h)
  | 0, _, _, _ => trivial
  | d + 1, b, c, h => grows_seqB (fun h b => grows_eff (grows_run W d) c h b) b h
/-- every go of the run bears the factor -/
abbrev Fine (F : Int) (o : Out) : Prop := o.all fun h => ∀ v ∈ h.log, (v * F).natAbs ≤ 1000000
theorem Fine.left {F : Int} {o : Out} {f : Hd → Out} (b : ∀ h', Grows h' (f h')) (q : Fine F (o.bind f)) : Fine F o := by
  cases o with
  | ok h =>
    have q : Fine F (f h) := q
    have g := b h
    intro v hv
    cases e : f h with
    | ok h2 => rw [e] at q g; exact q v (g v hv)
    | stop h2 => rw [e] at q g; exact q v (g v hv)
    | nomark h2 => rw [e] at q g; exact q v (g v hv)
    | great => rw [e] at q; exact q.elim
    | deep => rw [e] at q; exact q.elim
  | stop h => exact q
  | nomark h => exact q
  | great => exact q
  | deep => exact q.elim
end TH
set_option linter.all false
namespace TH
/-! ### the larger program runs as the program, larger -/
theorem sc_bind {F : Int} {o : Out} {f g : Hd → Out} (h : ∀ h', o = .ok h' → g (h'.sc F) = (f h').sc F) : (o.sc F).bind g = (o.bind f).sc F := by
  cases o with
  | ok h' => exact h h' rfl
  | stop h' => rfl
  | nomark h' => rfl
  | great => rfl
  | deep => rfl
theorem fine_ok {F : Int} {o : Out} {f : Hd → Out} {h' : Hd} (e : o = .ok h') (q : Fine F (o.bind f)) : Fine F (f h') := by
  subst e
  exact q
theorem fine_deed {F : Int} {h : Hd} {f : Hd → Out} (q : Fine F (deed h f)) (hr : h.rest ≠ 0) : Fine F (f { h with rest := h.rest - 1 }) := by
  unfold deed at q
  rw [if_neg hr] at q
  exact q
theorem fine_chk {F v : Int} {o : Out} (q : Fine F (chk v o)) : ¬ v.natAbs > 1000000 ∧ Fine F o := by
  unfold chk at q
  split at q
  · exact q.elim
  · rename_i n
    exact ⟨n, q⟩
theorem chk_ok {v : Int} {o : Out} (h : ¬ v.natAbs > 1000000) : chk v o = o := if_neg h
theorem deed_sc {F : Int} {h : Hd} {f g : Hd → Out} (e : h.rest ≠ 0 → g ({ h with rest := h.rest - 1 }.sc F) = (f { h with rest := h.rest - 1 }).sc F) : deed (h.sc F) g = (deed h f).sc F := by
  unfold deed
  show (if h.rest = 0 then Out.stop (h.sc F) else _) = _
  by_cases c : h.rest = 0
  · rw [if_pos c, if_pos c]
    rfl
  · rw [if_neg c, if_neg c]
    exact e c
theorem rounds_sc {F : Int} {f g : Int → Hd → Out} (hg : ∀ k h, Grows h (f k h)) (e : ∀ k h, Fine F (f k h) → g k (h.sc F) = (f k h).sc F) : ∀ (n : Nat) (k : Int) (h : Hd), Fine F (rounds f n k h) → rounds g n k (h.sc F) = (rounds f n k h).sc F
  | 0, _, _, _ => rfl
  | n + 1, k, h, q => by
    have q : Fine F ((deed h (f k)).bind (rounds f n (k + 1))) := q
    have q1 := Fine.left (fun h' => grows_rounds hg n (k + 1) h') q
    show (deed (h.sc F) (g k)).bind (rounds g n (k + 1)) = ((deed h (f k)).bind (rounds f n (k + 1))).sc F
    rw [deed_sc (f := f k) (g := g k) fun c => e k _ (fine_deed q1 c)]
    exact sc_bind fun h' eh => rounds_sc hg e n (k + 1) h' (fine_ok eh q)
theorem eff_sc {F : Int} (hF : 1 ≤ F) {W : List B} {rec rec' : B → Ctx → Hd → Out} (hg : ∀ b c h, Grows h (rec b c h)) (e : ∀ b c h, Fine F (rec b c h) → rec' (b.larger F) c (h.sc F) = (rec b c h).sc F)
    (c : Ctx) (h : Hd) (b : B) (q : Fine F (eff W rec c h b)) : eff (W.map (B.larger F)) rec' c (h.sc F) (b.larger F) = (eff W rec c h b).sc F := by
  cases b with
  | nil => rfl
  | go a r =>
    unfold eff at q ⊢
    refine deed_sc fun n => ?_
    have q := fine_deed q n
    obtain ⟨q1, q2⟩ := fine_chk q
    show chk ((a.times F).val c) (.ok (Hd.go _ ((a.times F).val c))) = _
    have z : (a.val c * F).natAbs ≤ 1000000 := q2 (a.val c) List.mem_cons_self
    rw [times_val, chk_ok q1, chk_ok (by omega), go_sc hF]
    rfl
  | turn a r =>
    unfold eff at q ⊢
    refine deed_sc fun n => ?_
    obtain ⟨q1, q2⟩ := fine_chk (fine_deed q n)
    show chk (a.val c) _ = _
    rw [chk_ok q1, chk_ok q1]
    rfl
  | ink a r =>
    unfold eff at q ⊢
    refine deed_sc fun n => ?_
    obtain ⟨q1, q2⟩ := fine_chk (fine_deed q n)
    show chk (a.val c) _ = _
    rw [chk_ok q1, chk_ok q1]
    rfl
  | pen d r =>
    unfold eff at q ⊢
    exact deed_sc fun n => rfl
  | mark k r =>
    unfold eff at q ⊢
    refine deed_sc fun n => ?_
    show Out.ok (Hd.mark _ k) = Out.ok (Hd.sc F (Hd.mark _ k))
    congr 1
    unfold Hd.mark Hd.sc
    congr 1
    funext j
    by_cases hj : j = k
    · simp [hj]
    · simp [hj]
  | back k r =>
    unfold eff at q ⊢
    refine deed_sc fun n => ?_
    show backO _ (Option.map _ (h.marks k)) = Out.sc F (backO _ (h.marks k))
    cases h.marks k with
    | none => rfl
    | some z =>
      show Out.ok _ = Out.ok _
      congr 1
      unfold Hd.back Hd.sc
      simp
  | again a b r =>
    unfold eff at q ⊢
    refine deed_sc fun n => ?_
    obtain ⟨q1, q2⟩ := fine_chk (fine_deed q n)
    show chk (a.val c) (rounds _ (a.val c).toNat 0 _) = _
    rw [chk_ok q1, chk_ok q1]
    exact rounds_sc (fun k h => hg _ _ _) (fun k h z => e _ _ _ z) _ _ _ q2
  | ite a b b2 r =>
    unfold eff at q ⊢
    refine deed_sc fun n => ?_
    obtain ⟨q1, q2⟩ := fine_chk (fine_deed q n)
    show chk (a.val c) (if a.val c ≤ 0 then _ else _) = _
    rw [chk_ok q1, chk_ok q1]
    by_cases hc : a.val c ≤ 0
    · rw [if_pos hc] at q2 ⊢
      rw [if_pos hc]
      exact e _ _ _ q2
    · rw [if_neg hc] at q2 ⊢
      rw [if_neg hc]
      exact e _ _ _ q2
  | call j as r =>
    unfold eff at q ⊢
    refine deed_sc fun n => ?_
    have q := fine_deed q n
    show (if as.any _ = true then Out.great else _) = _
    by_cases hc : (as.any fun a => decide ((a.val c).natAbs > 1000000)) = true
    · rw [if_pos hc, if_pos hc]
      rfl
    · rw [if_neg hc, if_neg hc]
      rw [if_neg hc] at q
      have ew : (W.map (B.larger F)).getD j .nil = (W.getD j .nil).larger F := by
        rw [List.getD_eq_getElem?_getD, List.getD_eq_getElem?_getD, List.getElem?_map]
        cases W[j]? <;> rfl
      rw [ew]
      exact e _ _ _ q
theorem seqB_sc {F : Int} {f g : Hd → B → Out} (hg : ∀ h b, Grows h (f h b)) (e : ∀ h b, b ≠ .nil → Fine F (f h b) → g (h.sc F) (b.larger F) = (f h b).sc F) (b : B) : ∀ h, Fine F (seqB f b h) → seqB g (b.larger F) (h.sc F) = (seqB f b h).sc F := by
  induction b using B.tailInd with
  | h0 => exact fun h _ => rfl
  | hs b hb ih =>
    intro h q
    rw [seqB_cons f b hb] at q ⊢
    rw [seqB_cons g (b.larger F) (fun z => hb (larger_nil.mp z)), e h b hb (Fine.left (fun h' => grows_seqB hg _ h') q), larger_tail]
    exact sc_bind fun h' eh => ih h' (fine_ok eh q)
theorem run_sc {F : Int} (hF : 1 ≤ F) (W : List B) : ∀ (d : Nat) (b : B) (c : Ctx) (h : Hd), Fine F (run W d b c h) → run (W.map (B.larger F)) d (b.larger F) c (h.sc F) = (run W d b c h).sc F
  | 0, _, _, _, _ => rfl
  | d + 1, b, c, h, q => by
    rw [run_succ] at q ⊢
    rw [run_succ]
    exact seqB_sc (fun h b => grows_eff (grows_run W d) c h b) (fun h b _ z => eff_sc hF (grows_run W d) (run_sc hF W d) c h b z) b h q
end TH
set_option linter.all false
namespace TH
/-! ### programs as the law makes them: their amounts stay small -/
def AmOk (takes : Nat) (ins : Bool) : Am → Prop
  | .lit i => -9 ≤ i ∧ i ≤ 9
  | .src t .count m => ins = true ∧ -3 ≤ t ∧ t ≤ 3 ∧ -3 ≤ m ∧ m ≤ 3
  | .src t (.n k) m => k < takes ∧ -3 ≤ t ∧ t ≤ 3 ∧ -3 ≤ m ∧ m ≤ 3
def blen : B → Nat
  | .nil => 0
  | .go _ r => blen r + 1
  | .turn _ r => blen r + 1
  | .ink _ r => blen r + 1
  | .pen _ r => blen r + 1
  | .mark _ r => blen r + 1
  | .back _ r => blen r + 1
  | .again _ _ r => blen r + 1
  | .ite _ _ _ r => blen r + 1
  | .call _ _ r => blen r + 1
def BOk (ar : List Nat) (takes : Nat) : B → Nat → Bool → Prop
  | .nil, _, _ => True
  | .go a r, d, i => AmOk takes i a ∧ BOk ar takes r d i
  | .turn a r, d, i => AmOk takes i a ∧ BOk ar takes r d i
  | .ink a r, d, i => AmOk takes i a ∧ BOk ar takes r d i
  | .pen _ r, d, i => BOk ar takes r d i
  | .mark k r, d, i => (0 ≤ k ∧ k ≤ 9) ∧ BOk ar takes r d i
  | .back k r, d, i => (0 ≤ k ∧ k ≤ 9) ∧ BOk ar takes r d i
  | .again a b r, d, i => (AmOk takes i a ∧ 1 ≤ d ∧ BOk ar takes b (d - 1) true ∧ blen b ≤ 50) ∧ BOk ar takes r d i
  | .ite a b e r, d, i => (AmOk takes i a ∧ 1 ≤ d ∧ BOk ar takes b (d - 1) i ∧ BOk ar takes e (d - 1) i ∧ blen b ≤ 50 ∧ blen e ≤ 50) ∧ BOk ar takes r d i
  | .call j as r, d, i => (j < ar.length ∧ as.length = ar.getD j 0 ∧ ∀ a ∈ as, AmOk takes i a) ∧ BOk ar takes r d i
/-- how deep, how long a body's bodies are -/
def Fit : B → Nat → Prop
  | .nil, _ => True
  | .go _ r, d => Fit r d
  | .turn _ r, d => Fit r d
  | .ink _ r, d => Fit r d
  | .pen _ r, d => Fit r d
  | .mark _ r, d => Fit r d
  | .back _ r, d => Fit r d
  | .again _ b r, d => (1 ≤ d ∧ Fit b (d - 1) ∧ blen b ≤ 50) ∧ Fit r d
  | .ite _ b e r, d => (1 ≤ d ∧ Fit b (d - 1) ∧ Fit e (d - 1) ∧ blen b ≤ 50 ∧ blen e ≤ 50) ∧ Fit r d
  | .call _ _ r, d => Fit r d
theorem BOk.fit {ar : List Nat} {takes : Nat} : ∀ (b : B) (d : Nat) (i : Bool), BOk ar takes b d i → Fit b d
  | .nil, _, _, _ => trivial
  | .go _ r, d, i, h => BOk.fit r d i h.2
  | .turn _ r, d, i, h => BOk.fit r d i h.2
  | .ink _ r, d, i, h => BOk.fit r d i h.2
  | .pen _ r, d, i, h => BOk.fit r d i h
  | .mark _ r, d, i, h => BOk.fit r d i h.2
  | .back _ r, d, i, h => BOk.fit r d i h.2
  | .again _ b r, d, i, h => ⟨⟨h.1.2.1, BOk.fit b _ _ h.1.2.2.1, h.1.2.2.2⟩, BOk.fit r d i h.2⟩
  | .ite _ b e r, d, i, h => ⟨⟨h.1.2.1, BOk.fit b _ _ h.1.2.2.1, BOk.fit e _ _ h.1.2.2.2.1, h.1.2.2.2.2⟩, BOk.fit r d i h.2⟩
  | .call _ _ r, d, i, h => BOk.fit r d i h.2
theorem BOk.tail {ar : List Nat} {takes d : Nat} {i : Bool} {b : B} (h : BOk ar takes b d i) : BOk ar takes b.tail d i := by
  cases b <;> first | exact h | exact h.2
/-- the words: how many numbers each takes, its body -/
abbrev Ws := List (Nat × B)
def arOf (ws : Ws) (l : Nat) : List Nat := (ws.take l).map (·.1)
def WsOk (ws : Ws) : Prop := ∀ (i : Nat) (w : Nat × B), ws[i]? = some w → w.1 ≤ 4 ∧ BOk (arOf ws i) w.1 w.2 3 false ∧ blen w.2 ≤ 50
def Nb : Nat → Nat
  | 0 => 150
  | k + 1 => 3 * Nb k + 3
theorem nb_ge : ∀ k, 150 ≤ Nb k
  | 0 => Nat.le_refl _
  | k + 1 => by have := nb_ge k; show 150 ≤ 3 * Nb k + 3; omega
theorem nb_mono {i j : Nat} (h : i ≤ j) : Nb i ≤ Nb j := by
  induction h with
  | refl => exact Nat.le_refl _
  | step _ ih => rename_i k _; show Nb i ≤ 3 * Nb k + 3; omega
theorem am_small {takes X : Nat} {ins : Bool} {c : Ctx} {a : Am} (h : AmOk takes ins a) (hl : c.nums.length = takes) (hn : ∀ v ∈ c.nums, v.natAbs ≤ X) (hc : ins = true → c.count.natAbs ≤ 150) (hX : 150 ≤ X) : (a.val c).natAbs ≤ 3 * X + 3 := by
  have mul : ∀ t z m : Int, z.natAbs ≤ X → -3 ≤ t → t ≤ 3 → -3 ≤ m → m ≤ 3 → (t * z + m).natAbs ≤ 3 * X + 3 := by
    intro t z m hz h1 h2 h3 h4
    have ht : t = -3 ∨ t = -2 ∨ t = -1 ∨ t = 0 ∨ t = 1 ∨ t = 2 ∨ t = 3 := by omega
    rcases ht with rfl | rfl | rfl | rfl | rfl | rfl | rfl <;> omega
  cases a with
  | lit i =>
    have h : -9 ≤ i ∧ i ≤ 9 := h
    show i.natAbs ≤ _
    omega
  | src t s m =>
    cases s with
    | count =>
      obtain ⟨h0, h1, h2, h3, h4⟩ := h
      exact mul t c.count m (Nat.le_trans (hc h0) hX) h1 h2 h3 h4
    | n k =>
      obtain ⟨h0, h1, h2, h3, h4⟩ := h
      refine mul t (c.nums.getD k 0) m ?_ h1 h2 h3 h4
      have hk : k < c.nums.length := by omega
      rw [List.getD_eq_getElem?_getD, List.getElem?_eq_getElem hk]
      exact hn _ (List.getElem_mem hk)
/-- where a place lies -/
def PtB (X : Int) (p : Pt) : Prop := (-X ≤ p.ax ∧ p.ax ≤ X) ∧ (-X ≤ p.bx ∧ p.bx ≤ X) ∧ (-X ≤ p.ay ∧ p.ay ≤ X) ∧ (-X ≤ p.cy ∧ p.cy ≤ X)
theorem PtB.mono {X Y : Int} {p : Pt} (h : PtB X p) (q : X ≤ Y) : PtB Y p := by
  unfold PtB at *
  omega
def Sees (v : Int) (a b : Pt) : Prop := v.natAbs ≤ (b.ax - a.ax).natAbs ∨ v.natAbs ≤ (b.bx - a.bx).natAbs ∨ v.natAbs ≤ (b.ay - a.ay).natAbs ∨ v.natAbs ≤ (b.cy - a.cy).natAbs
/-- two corners, one behind the other, lie so far apart -/
def Seen (cs : List Pt) (v : Int) : Prop := ∃ (i : Nat) (a b : Pt), cs[i]? = some a ∧ cs[i + 1]? = some b ∧ Sees v a b
theorem Seen.more {cs : List Pt} {v : Int} (h : Seen cs v) (r : List Pt) : Seen (cs ++ r) v := by
  obtain ⟨i, a, b, h1, h2, h3⟩ := h
  have l1 : i < cs.length := (List.getElem?_eq_some_iff.mp h1).1
  have l2 : i + 1 < cs.length := (List.getElem?_eq_some_iff.mp h2).1
  exact ⟨i, a, b, by rw [List.getElem?_append_left l1]; exact h1, by rw [List.getElem?_append_left l2]; exact h2, h3⟩
theorem Seen.last {pre : List Pt} {v : Int} {a b : Pt} (h : Sees v a b) : Seen (pre ++ [a] ++ [b]) v :=
  ⟨pre.length, a, b, by simp, by simp, h⟩
theorem head_cases {h : Int} (h0 : 0 ≤ h) (h8 : h < 8) : h = 0 ∨ h = 1 ∨ h = 2 ∨ h = 3 ∨ h = 4 ∨ h = 5 ∨ h = 6 ∨ h = 7 := by omega
theorem moved_sees {p : Pt} {h v : Int} (h0 : 0 ≤ h) (h8 : h < 8) : Sees v p (moved p h v) := by
  unfold Sees
  rcases head_cases h0 h8 with rfl | rfl | rfl | rfl | rfl | rfl | rfl | rfl <;> simp [moved, east, eastL] <;> omega
theorem moved_in {p : Pt} {h v X : Int} (h0 : 0 ≤ h) (h8 : h < 8) (hp : PtB X p) (hv : v.natAbs ≤ 1000000) : PtB (X + 1000000) (moved p h v) := by
  unfold PtB at *
  rcases head_cases h0 h8 with rfl | rfl | rfl | rfl | rfl | rfl | rfl | rfl <;> simp [moved, east, eastL] <;> omega
def far (M r : Nat) : Int := 1000000 * ((M : Int) - r)
structure Iv (M NB : Nat) (h : Hd) : Prop where
  rest : h.rest ≤ M
  log : ∀ v ∈ h.log, v.natAbs ≤ NB
  spot : PtB (far M h.rest) h.spot
  marks : ∀ k q, h.marks k = some q → PtB (far M h.rest) q.1 ∧ 0 ≤ q.2 ∧ q.2 < 8
  corners : ∀ p ∈ h.corners, PtB (far M h.rest) p
  head : 0 ≤ h.head ∧ h.head < 8
  last : ∃ pre, h.corners = pre ++ [h.spot]
  seen : ∀ v ∈ h.log, Seen h.corners v
  strokes : ∀ s ∈ h.strokes, PtB (far M h.rest) s.2.1 ∧ PtB (far M h.rest) s.2.2
def Post (M NB n s : Nat) : Out → Prop
  | .ok h => Iv M NB h ∧ h.rest + s ≤ n
  | .stop h => Iv M NB h
  | .nomark h => Iv M NB h
  | .great => False
  | .deep => False
theorem Post.all {M NB n s : Nat} {o : Out} (h : Post M NB n s o) : o.all (Iv M NB) := by
  cases o with
  | ok h' => exact h.1
  | stop h' => exact h
  | nomark h' => exact h
  | great => exact h
  | deep => exact h
theorem Post.weak {M NB n s n' s' : Nat} {o : Out} (h : Post M NB n s o) (q : ∀ x, x + s ≤ n → x + s' ≤ n') : Post M NB n' s' o := by
  cases o with
  | ok h' => exact ⟨h.1, q _ h.2⟩
  | stop h' => exact h
  | nomark h' => exact h
  | great => exact h
  | deep => exact h
theorem Post.bind {M NB n s n' s' : Nat} {o : Out} {f : Hd → Out} (h : Post M NB n s o) (q : ∀ h', Iv M NB h' → h'.rest + s ≤ n → Post M NB n' s' (f h')) : Post M NB n' s' (o.bind f) := by
  cases o with
  | ok h' => exact q h' h.1 h.2
  | stop h' => exact h
  | nomark h' => exact h
  | great => exact h.elim
  | deep => exact h.elim
section
variable {M NB : Nat}
theorem Iv.less {h : Hd} (I : Iv M NB h) : Iv M NB { h with rest := h.rest - 1 } := by
  have l : far M h.rest ≤ far M (h.rest - 1) := by unfold far; omega
  exact ⟨by have := I.rest; show h.rest - 1 ≤ M; omega, I.log, I.spot.mono l, fun k q e => ⟨(I.marks k q e).1.mono l, (I.marks k q e).2⟩, fun p hp => (I.corners p hp).mono l, I.head, I.last, I.seen, fun s hs => ⟨(I.strokes s hs).1.mono l, (I.strokes s hs).2.mono l⟩⟩
theorem post_deed {s : Nat} {h : Hd} {f : Hd → Out} (I : Iv M NB h) (q : ∀ h1, Iv M NB h1 → h1 = { h with rest := h.rest - 1 } → h1.rest + 1 = h.rest → PtB (far M h1.rest - 1000000) h1.spot → Post M NB h1.rest s (f h1)) : Post M NB h.rest (s + 1) (deed h f) := by
  unfold deed
  split
  · exact I
  · rename_i n
    have r := I.rest
    have e : ({ h with rest := h.rest - 1 } : Hd).rest + 1 = h.rest := by show h.rest - 1 + 1 = h.rest; omega
    have z : PtB (far M (h.rest - 1) - 1000000) h.spot := I.spot.mono (by unfold far; omega)
    exact (q _ I.less rfl e z).weak fun x hx => by rw [← e]; omega
theorem post_chk {v : Int} {o : Out} {n s : Nat} (hv : v.natAbs ≤ 1000000) (q : Post M NB n s o) : Post M NB n s (chk v o) := by
  rw [chk_ok (by omega)]
  exact q
theorem Iv.go {h : Hd} {v : Int} (I : Iv M NB h) (z : PtB (far M h.rest - 1000000) h.spot) (hv : v.natAbs ≤ NB) (h6 : NB ≤ 1000000) : Iv M NB (h.go v) := by
  have mi : PtB (far M h.rest) (TH.moved h.spot h.head v) := (moved_in I.head.1 I.head.2 z (Nat.le_trans hv h6)).mono (by omega)
  refine ⟨I.rest, fun w hw => ?_, mi, I.marks, fun p hp => ?_, I.head, ⟨h.corners, rfl⟩, fun w hw => ?_, fun s hs => ?_⟩
  · rcases List.mem_cons.mp hw with rfl | hw
    · exact hv
    · exact I.log w hw
  · rcases List.mem_append.mp hp with hp | hp
    · exact I.corners p hp
    · rw [List.mem_singleton.mp hp]; exact mi
  · show Seen (h.corners ++ [_]) w
    rcases List.mem_cons.mp hw with rfl | hw
    · obtain ⟨pre, e⟩ := I.last
      rw [e]
      exact Seen.last (moved_sees I.head.1 I.head.2)
    · exact (I.seen w hw).more _
  · have hs : s ∈ (if h.down = true ∧ v ≠ 0 then h.strokes ++ [(h.ink, h.spot, TH.moved h.spot h.head v)] else h.strokes) := hs
    split at hs
    · rcases List.mem_append.mp hs with hs | hs
      · exact I.strokes s hs
      · rw [List.mem_singleton.mp hs]
        exact ⟨I.spot, mi⟩
    · exact I.strokes s hs
theorem Iv.turn {h : Hd} (I : Iv M NB h) (v : Int) : Iv M NB (h.turn v) :=
  ⟨I.rest, I.log, I.spot, I.marks, I.corners, by show 0 ≤ (h.head + v) % 8 ∧ (h.head + v) % 8 < 8; omega, I.last, I.seen, I.strokes⟩
theorem Iv.mark {h : Hd} (I : Iv M NB h) (k : Int) : Iv M NB (h.mark k) := by
  refine ⟨I.rest, I.log, I.spot, fun j q e => ?_, I.corners, I.head, I.last, I.seen, I.strokes⟩
  have e : (if j = k then some (h.spot, h.head) else h.marks j) = some q := e
  by_cases c : j = k
  · rw [if_pos c] at e
    cases e
    exact ⟨I.spot, I.head⟩
  · rw [if_neg c] at e
    exact I.marks j q e
theorem Iv.back {h : Hd} (I : Iv M NB h) {k : Int} {q : Pt × Int} (e : h.marks k = some q) : Iv M NB (h.back q) := by
  obtain ⟨m1, m2⟩ := I.marks k q e
  refine ⟨I.rest, I.log, m1, I.marks, fun p hp => ?_, m2, ⟨h.corners, rfl⟩, fun w hw => (I.seen w hw).more _, I.strokes⟩
  rcases List.mem_append.mp hp with hp | hp
  · exact I.corners p hp
  · rw [List.mem_singleton.mp hp]; exact m1
theorem post_rounds0 {f : Int → Hd → Out} (q : ∀ k h, Iv M NB h → Post M NB h.rest 0 (f k h)) : ∀ (n : Nat) (k : Int) (h : Hd), Iv M NB h → Post M NB h.rest 0 (rounds f n k h)
  | 0, _, h, I => ⟨I, Nat.le_refl _⟩
  | n + 1, k, h, I => by
    refine Post.bind (post_deed (s := 0) I fun h1 I1 _ _ _ => q k h1 I1) fun h2 I2 l => ?_
    exact (post_rounds0 q n (k + 1) h2 I2).weak fun x hx => by omega
theorem post_rounds {f : Int → Hd → Out} (q : ∀ (k : Int) h, Iv M NB h → 0 ≤ k → 2 * k + h.rest + 2 ≤ M → Post M NB h.rest 1 (f k h)) : ∀ (n : Nat) (k : Int) (h : Hd), Iv M NB h → 0 ≤ k → 2 * k + h.rest + 1 ≤ M → Post M NB h.rest 0 (rounds f n k h)
  | 0, _, h, I, _, _ => ⟨I, Nat.le_refl _⟩
  | n + 1, k, h, I, k0, kM => by
    refine Post.bind (post_deed (s := 1) I fun h1 I1 e1 e2 _ => q k h1 I1 k0 (by omega)) fun h2 I2 l => ?_
    exact (post_rounds q n (k + 1) h2 I2 (by omega) (by omega)).weak fun x hx => by omega
end
theorem run_post {M m : Nat} {ws : Ws} (hM : M ≤ 300) (hw : WsOk ws) (hm : ws.length = m) (h6 : m ≤ 6) : ∀ (D l cc d takes : Nat) (ins : Bool) (b : B) (c : Ctx) (h : Hd), cc + l ≤ m → d + 1 + 4 * l ≤ D →
    BOk (arOf ws l) takes b d ins → c.nums.length = takes → (∀ v ∈ c.nums, v.natAbs ≤ Nb cc) → (ins = true → b ≠ .nil → c.count.natAbs ≤ 150) → Iv M (Nb (m + 1)) h →
    Post M (Nb (m + 1)) h.rest 0 (run (ws.map (·.2)) D b c h) ∧ (b ≠ .nil → Post M (Nb (m + 1)) h.rest 1 (run (ws.map (·.2)) D b c h))
  | 0, _, _, _, _, _, _, _, _, _, hD, _, _, _, _, _ => by omega
  | D + 1, l, cc, d, takes, ins, b, c, h, hcc, hD, hb, hl, hn, hc, I => by
    have N7 : Nb (m + 1) ≤ 1000000 := Nat.le_trans (nb_mono (show m + 1 ≤ 7 by omega)) (by decide)
    have ih := run_post hM hw hm h6 D
    -- one statement
    have one : ∀ (b : B) (h : Hd), b ≠ .nil → BOk (arOf ws l) takes b d ins → (ins = true → c.count.natAbs ≤ 150) → Iv M (Nb (m + 1)) h → Post M (Nb (m + 1)) h.rest 1 (eff (ws.map (·.2)) (run (ws.map (·.2)) D) c h b) := by
      intro b h nb hb hc I
      have small : ∀ a, AmOk takes ins a → (a.val c).natAbs ≤ Nb (cc + 1) := fun a ha => am_small ha hl hn hc (nb_ge cc)
      have le1 : Nb (cc + 1) ≤ Nb (m + 1) := nb_mono (by omega)
      cases b with
      | nil => exact absurd rfl nb
      | go a r =>
        unfold eff
        refine post_deed (s := 0) I fun h1 I1 _ _ z => ?_
        have s := small a hb.1
        exact post_chk (by omega) ⟨I1.go z (by omega) N7, Nat.le_refl _⟩
      | turn a r =>
        unfold eff
        refine post_deed (s := 0) I fun h1 I1 _ _ z => ?_
        have s := small a hb.1
        exact post_chk (by omega) ⟨I1.turn _, Nat.le_refl _⟩
      | ink a r =>
        unfold eff
        refine post_deed (s := 0) I fun h1 I1 _ _ z => ?_
        have s := small a hb.1
        exact post_chk (by omega) ⟨⟨I1.rest, I1.log, I1.spot, I1.marks, I1.corners, I1.head, I1.last, I1.seen, I1.strokes⟩, Nat.le_refl _⟩
      | pen a r =>
        unfold eff
        refine post_deed (s := 0) I fun h1 I1 _ _ z => ?_
        exact ⟨⟨I1.rest, I1.log, I1.spot, I1.marks, I1.corners, I1.head, I1.last, I1.seen, I1.strokes⟩, Nat.le_refl _⟩
      | mark k r =>
        unfold eff
        refine post_deed (s := 0) I fun h1 I1 _ _ z => ?_
        exact ⟨I1.mark k, Nat.le_refl _⟩
      | back k r =>
        unfold eff
        refine post_deed (s := 0) I fun h1 I1 _ _ z => ?_
        cases e : h1.marks k with
        | none => exact I1
        | some q => exact ⟨I1.back e, Nat.le_refl _⟩
      | again a b2 r =>
        unfold eff
        refine post_deed (s := 0) I fun h1 I1 e1 e2 z => ?_
        obtain ⟨⟨ha, hd, hb2, _⟩, _⟩ := hb
        have s := small a ha
        have rM := I.rest
        refine post_chk (by omega) ?_
        by_cases nb2 : b2 = .nil
        · refine post_rounds0 (fun k h2 I2 => ?_) _ _ _ I1
          exact (ih l cc (d - 1) takes true b2 ⟨c.nums, k⟩ h2 hcc (by omega) hb2 hl hn (fun _ z => absurd nb2 z) I2).1
        · refine post_rounds (fun k h2 I2 k0 kM => ?_) _ _ _ I1 (Int.le_refl 0) (by omega)
          exact (ih l cc (d - 1) takes true b2 ⟨c.nums, k⟩ h2 hcc (by omega) hb2 hl hn (fun _ _ => by show k.natAbs ≤ 150; omega) I2).2 nb2
      | ite a b2 b3 r =>
        unfold eff
        refine post_deed (s := 0) I fun h1 I1 e1 e2 z => ?_
        obtain ⟨⟨ha, hd, hb2, hb3, _⟩, _⟩ := hb
        have s := small a ha
        refine post_chk (by omega) ?_
        split
        · exact (ih l cc (d - 1) takes ins b3 c h1 hcc (by omega) hb3 hl hn (fun z _ => hc z) I1).1
        · exact (ih l cc (d - 1) takes ins b2 c h1 hcc (by omega) hb2 hl hn (fun z _ => hc z) I1).1
      | call j as r =>
        unfold eff
        refine post_deed (s := 0) I fun h1 I1 e1 e2 z => ?_
        obtain ⟨⟨hj, hal, has⟩, _⟩ := hb
        have ng : ¬ (as.any fun a => decide ((a.val c).natAbs > 1000000)) = true := by
          intro q
          obtain ⟨a, ha, e⟩ := List.any_eq_true.mp q
          have e := of_decide_eq_true e
          have s := small a (has a ha)
          omega
        rw [if_neg ng]
        have hj2 : j < l ∧ j < ws.length := by
          have hj : j < ((ws.take l).map (·.1)).length := hj
          rw [List.length_map, List.length_take] at hj
          omega
        have ej : ws[j]? = some ws[j] := List.getElem?_eq_getElem hj2.2
        obtain ⟨w4, wb, _⟩ := hw j _ ej
        have eW : (ws.map (·.2)).getD j .nil = (ws[j]).2 := by
          rw [List.getD_eq_getElem?_getD, List.getElem?_map, ej]
          rfl
        have ea : (arOf ws l).getD j 0 = (ws[j]).1 := by
          unfold arOf
          rw [List.getD_eq_getElem?_getD, List.getElem?_map, List.getElem?_take_of_lt hj2.1, ej]
          rfl
        rw [eW]
        refine (ih j (cc + 1) 3 (ws[j]).1 false (ws[j]).2 ⟨as.map (Am.val c), 0⟩ h1 (by omega) (by omega) wb ?_ ?_ (fun z => nomatch z) I1).1
        · show (as.map _).length = _
          rw [List.length_map, hal, ea]
        · intro v hv
          obtain ⟨a, ha, rfl⟩ := List.mem_map.mp hv
          exact small a (has a ha)
    -- the statements in a row
    have row : ∀ (b : B), (∀ (h : Hd), BOk (arOf ws l) takes b d ins → (ins = true → b ≠ .nil → c.count.natAbs ≤ 150) → Iv M (Nb (m + 1)) h →
        Post M (Nb (m + 1)) h.rest 0 (seqB (fun h b => eff (ws.map (·.2)) (run (ws.map (·.2)) D) c h b) b h) ∧ (b ≠ .nil → Post M (Nb (m + 1)) h.rest 1 (seqB (fun h b => eff (ws.map (·.2)) (run (ws.map (·.2)) D) c h b) b h))) := by
      intro b
      induction b using B.tailInd with
      | h0 => exact fun h _ _ I => ⟨⟨I, Nat.le_refl _⟩, fun z => absurd rfl z⟩
      | hs b nb ihb =>
        intro h hb hc I
        rw [seqB_cons _ b nb]
        have p : Post M (Nb (m + 1)) h.rest 1 ((eff (ws.map (·.2)) (run (ws.map (·.2)) D) c h b).bind (seqB (fun h b => eff (ws.map (·.2)) (run (ws.map (·.2)) D) c h b) b.tail)) := by
          refine Post.bind (one b h nb hb (fun z => hc z nb) I) fun h1 I1 l1 => ?_
          exact ((ihb h1 hb.tail (fun z _ => hc z nb) I1).1).weak fun x hx => by omega
        exact ⟨p.weak fun x hx => by omega, fun _ => p⟩
    exact row b h hb hc I
/-! ### the program -/
structure Prog where
  ws : Ws
  body : B
structure Prog.Ok (p : Prog) : Prop where
  few : p.ws.length ≤ 6
  ws : WsOk p.ws
  body : BOk (p.ws.map (·.1)) 0 p.body 4 false
  len : blen p.body ≤ 50
def Prog.run (p : Prog) (M : Nat) : Out := TH.run (p.ws.map (·.2)) 30 p.body ⟨[], 0⟩ (Hd.init M)
def Prog.larger (p : Prog) (F : Int) : Prog := ⟨p.ws.map fun w => (w.1, w.2.larger F), p.body.larger F⟩
theorem Prog.larger_one (p : Prog) : p.larger 1 = p := by
  cases p with
  | mk ws body =>
    show Prog.mk _ _ = _
    congr 1
    · have e : (fun w : Nat × B => (w.1, w.2.larger 1)) = id := by
        funext w
        rw [TH.larger_one]
        rfl
      rw [e, List.map_id]
    · exact TH.larger_one body
theorem prog_post {p : Prog} (ok : p.Ok) {M : Nat} (hM : M ≤ 300) : (p.run M).all (Iv M (Nb (p.ws.length + 1))) := by
  have e : arOf p.ws p.ws.length = p.ws.map (·.1) := by unfold arOf; rw [List.take_length]
  have h6 := ok.few
  refine (run_post hM ok.ws rfl h6 30 p.ws.length 0 4 0 false p.body ⟨[], 0⟩ (Hd.init M) (by omega) (by omega) (by rw [e]; exact ok.body) rfl (fun v hv => by cases hv) (fun z => nomatch z) ?_).1.all
  have z : PtB (far M M) origin := by unfold PtB far origin; dsimp only; omega
  exact ⟨Nat.le_refl _, fun v hv => (by cases hv), z, fun k q e => (by cases e), fun p hp => (by rw [List.mem_singleton.mp hp]; exact z), ⟨Int.le_refl 0, (show (0 : Int) < 8 by decide)⟩, ⟨[], rfl⟩, fun v hv => (by cases hv), fun s hs => (by cases hs)⟩
theorem prog_sc {p : Prog} {M : Nat} {F : Int} (hF : 1 ≤ F) (q : Fine F (p.run M)) : (p.larger F).run M = (p.run M).sc F := by
  unfold Prog.run at q ⊢
  generalize (30 : Nat) = d at q ⊢
  have e := run_sc hF (p.ws.map (·.2)) d p.body ⟨[], 0⟩ (Hd.init M) q
  rw [init_sc] at e
  rw [← e]
  have ew : (p.larger F).ws.map (·.2) = (p.ws.map (·.2)).map (B.larger F) := by
    show (p.ws.map fun w => (w.1, w.2.larger F)).map (·.2) = _
    rw [List.map_map, List.map_map]
    rfl
  rw [ew]
  rfl
theorem Out.all.imp {P Q : Hd → Prop} {o : Out} (h : o.all P) (i : ∀ h', P h' → Q h') : o.all Q := by
  cases o with
  | ok h' => exact i _ h
  | stop h' => exact i _ h
  | nomark h' => exact i _ h
  | great => exact h
  | deep => exact h
theorem mul_small {v F : Int} {X Y : Nat} (hv : v.natAbs ≤ X) (h1 : 1 ≤ F) (hF : F ≤ Y) (h : X * Y ≤ 1000000) : (v * F).natAbs ≤ 1000000 := by
  rw [Int.natAbs_mul]
  exact Nat.le_trans (Nat.mul_le_mul hv (show F.natAbs ≤ Y by omega)) h
/-- by the words' number -/
theorem fine_words {p : Prog} (ok : p.Ok) {M : Nat} (hM : M ≤ 300) {F : Int} (h1 : 1 ≤ F) (hF : F ≤ if p.ws.length > 4 then 3 else 9) : Fine F (p.run M) := by
  refine (prog_post ok hM).imp fun h I v hv => ?_
  have l := I.log v hv
  have h6 := ok.few
  by_cases c : p.ws.length > 4
  · rw [if_pos c] at hF
    exact mul_small (Y := 3) (Nat.le_trans l (nb_mono (show p.ws.length + 1 ≤ 7 by omega))) h1 hF (by decide)
  · rw [if_neg c] at hF
    exact mul_small (Y := 9) (Nat.le_trans l (nb_mono (show p.ws.length + 1 ≤ 5 by omega))) h1 hF (by decide)
/-- the corners lie at most so far apart -/
def Cov (cs : List Pt) (f : Int) : Prop := ∀ (i : Nat) (a b : Pt), cs[i]? = some a → cs[i + 1]? = some b → ((b.ax - a.ax).natAbs : Int) ≤ f ∧ ((b.bx - a.bx).natAbs : Int) ≤ f ∧ ((b.ay - a.ay).natAbs : Int) ≤ f ∧ ((b.cy - a.cy).natAbs : Int) ≤ f
def Out.hd : Out → Hd
  | .ok h => h
  | .stop h => h
  | .nomark h => h
  | _ => Hd.init 0
theorem fine_free {p : Prog} (ok : p.Ok) {M : Nat} (hM : M ≤ 300) {F f : Int} (h1 : 1 ≤ F) (hf : 1 ≤ f) (hc : Cov (p.run M).hd.corners f) (hF : F = 1 ∨ F ≤ 1000000 / f) : Fine F (p.run M) := by
  have P := prog_post ok hM
  have key : ∀ h, Iv M (Nb (p.ws.length + 1)) h → Cov h.corners f → ∀ v ∈ h.log, (v * F).natAbs ≤ 1000000 := by
    intro h I C v hv
    have h6 := ok.few
    rcases hF with rfl | hF
    · have l := I.log v hv
      have := Nat.le_trans l (nb_mono (show p.ws.length + 1 ≤ 7 by omega))
      rw [Int.mul_one]
      exact Nat.le_trans this (by decide)
    · obtain ⟨i, a, b, e1, e2, s⟩ := I.seen v hv
      obtain ⟨c1, c2, c3, c4⟩ := C i a b e1 e2
      have vf : (v.natAbs : Int) ≤ f := by unfold Sees at s; omega
      have t : F * f ≤ 1000000 := by
        have t1 := Int.mul_le_mul_of_nonneg_right hF (show 0 ≤ f by omega)
        have t2 := Int.ediv_mul_le 1000000 (show f ≠ 0 by omega)
        omega
      have t3 : ((v * F).natAbs : Int) = (v.natAbs : Int) * F := by
        rw [Int.natAbs_mul, Int.natCast_mul]
        have : (F.natAbs : Int) = F := by omega
        rw [this]
      have t4 := Int.mul_le_mul_of_nonneg_right vf (show 0 ≤ F by omega)
      rw [Int.mul_comm f F] at t4
      omega
  cases e : p.run M with
  | ok h => rw [e] at P hc; exact key h P hc
  | stop h => rw [e] at P hc; exact key h P hc
  | nomark h => rw [e] at P hc; exact key h P hc
  | great => rw [e] at P; exact P.elim
  | deep => rw [e] at P; exact P.elim
end TH
set_option Elab.async false
set_option linter.all false
set_option maxRecDepth 100000
set_option maxHeartbeats 4000000
namespace TH
open PySem PySem.Spec PyProof.Rows L2
/-! ### data of tuples: what a value reads as -/
mutual
def Tp (K : PySem.W.Frag) (H : Hp) : PyData → V → Prop
  | .int i, v => v = .int i
  | .bool b, v => v = .bl b
  | .str x, v => v = .str x
  | .tuple ds, v => ∃ (a : Addr) (xs : List V), v = .ref a ∧ SqT K H a xs ∧ TpAll K H ds xs
  | .none, _ => False
  | .list _, _ => False
  | .dict _, _ => False
def TpAll (K : PySem.W.Frag) (H : Hp) : List PyData → List V → Prop
  | [], xs => xs = []
  | d :: ds, xs => ∃ (x : V) (r : List V), xs = x :: r ∧ Tp K H d x ∧ TpAll K H ds r
end
/-- the tuples that stand stay -/
def Tups (H H' : Hp) : Prop := ∀ (b : Addr) (xs : List V), Rd H b (.tup xs) → Rd H' b (.tup xs)
theorem Tups.refl (H : Hp) : Tups H H := fun _ _ h => h
theorem Tups.trans {H H1 H2 : Hp} (a : Tups H H1) (b : Tups H1 H2) : Tups H H2 := fun c xs h => b c xs (a c xs h)
theorem Tups.sq {K : PySem.W.Frag} {H H' : Hp} (t : Tups H H') {a : Addr} {xs : List V} (h : SqT K H a xs) : SqT K H' a xs := by
  rcases h with h | h
  · exact .inl (t _ _ h)
  · exact .inr h
theorem Tups.same {H H' : Hp} (s : Same H H') : Tups H H' := fun b xs h => by
  rcases h with h | ⟨o, h⟩
  · exact .inl (s _ _ h)
  · exact .inr ⟨o, s _ _ h⟩
mutual
theorem Tp.mono {K : PySem.W.Frag} {H H' : Hp} (t : Tups H H') : ∀ (d : PyData) (v : V), Tp K H d v → Tp K H' d v
  | .int i, _, h => by rw [Tp] at h ⊢; exact h
  | .bool b, _, h => by rw [Tp] at h ⊢; exact h
  | .str x, _, h => by rw [Tp] at h ⊢; exact h
  | .tuple ds, _, h => by
    rw [Tp] at h ⊢
    obtain ⟨a, xs, e, s, r⟩ := h
    exact ⟨a, xs, e, t.sq s, TpAll.mono t ds xs r⟩
  | .none, _, h => by rw [Tp] at h; exact h.elim
  | .list _, _, h => by rw [Tp] at h; exact h.elim
  | .dict _, _, h => by rw [Tp] at h; exact h.elim
theorem TpAll.mono {K : PySem.W.Frag} {H H' : Hp} (t : Tups H H') : ∀ (ds : List PyData) (xs : List V), TpAll K H ds xs → TpAll K H' ds xs
  | [], _, h => by rw [TpAll] at h ⊢; exact h
  | d :: ds, _, h => by
    rw [TpAll] at h ⊢
    obtain ⟨x, r, e, h1, h2⟩ := h
    exact ⟨x, r, e, Tp.mono t d x h1, TpAll.mono t ds r h2⟩
end
mutual
theorem Tp.dp {K : PySem.W.Frag} {H : Hp} : ∀ (d : PyData) (v : V), Tp K H d v → Dp K H v d
  | .int i, _, h => by rw [Tp] at h; rw [h]; exact .int i
  | .bool b, _, h => by rw [Tp] at h; rw [h]; exact .bl b
  | .str x, _, h => by rw [Tp] at h; rw [h]; exact .str x
  | .tuple ds, _, h => by
    rw [Tp] at h
    obtain ⟨a, xs, e, s, r⟩ := h
    rw [e]
    exact .tup s (TpAll.dp ds xs r)
  | .none, _, h => by rw [Tp] at h; exact h.elim
  | .list _, _, h => by rw [Tp] at h; exact h.elim
  | .dict _, _, h => by rw [Tp] at h; exact h.elim
theorem TpAll.dp {K : PySem.W.Frag} {H : Hp} : ∀ (ds : List PyData) (xs : List V), TpAll K H ds xs → DpAll K H xs ds
  | [], _, h => by rw [TpAll] at h; rw [h]; exact .nil
  | d :: ds, _, h => by
    rw [TpAll] at h
    obtain ⟨x, r, e, h1, h2⟩ := h
    rw [e]
    exact .cons (Tp.dp d x h1) (TpAll.dp ds r h2)
end
section
variable {K : PySem.W.Frag} {H : Hp}
theorem tp_int {i : Int} : Tp K H (.int i) (.int i) := by rw [Tp]
theorem tp_bool {b : Bool} : Tp K H (.bool b) (.bl b) := by rw [Tp]
theorem tp_str {x : Str} : Tp K H (.str x) (.str x) := by rw [Tp]
theorem tp_tup {ds : List PyData} {a : Addr} {xs : List V} (s : SqT K H a xs) (r : TpAll K H ds xs) : Tp K H (.tuple ds) (.ref a) := by
  rw [Tp]
  exact ⟨a, xs, rfl, s, r⟩
theorem tpa_nil : TpAll K H [] [] := by rw [TpAll]
theorem tpa_cons {d : PyData} {ds : List PyData} {x : V} {r : List V} (h : Tp K H d x) (t : TpAll K H ds r) : TpAll K H (d :: ds) (x :: r) := by
  rw [TpAll]
  exact ⟨x, r, rfl, h, t⟩
theorem Tp.i {i : Int} {v : V} (h : Tp K H (.int i) v) : v = .int i := by rw [Tp] at h; exact h
theorem Tp.b {b : Bool} {v : V} (h : Tp K H (.bool b) v) : v = .bl b := by rw [Tp] at h; exact h
theorem Tp.s {x : Str} {v : V} (h : Tp K H (.str x) v) : v = .str x := by rw [Tp] at h; exact h
theorem Tp.t {ds : List PyData} {v : V} (h : Tp K H (.tuple ds) v) : ∃ (a : Addr) (xs : List V), v = .ref a ∧ SqT K H a xs ∧ TpAll K H ds xs := by rw [Tp] at h; exact h
theorem TpAll.n {xs : List V} (h : TpAll K H [] xs) : xs = [] := by rw [TpAll] at h; exact h
theorem TpAll.c {d : PyData} {ds : List PyData} {xs : List V} (h : TpAll K H (d :: ds) xs) : ∃ (x : V) (r : List V), xs = x :: r ∧ Tp K H d x ∧ TpAll K H ds r := by rw [TpAll] at h; exact h
theorem TpAll.len : ∀ {ds : List PyData} {xs : List V}, TpAll K H ds xs → xs.length = ds.length
  | [], _, h => by rw [h.n]; rfl
  | d :: ds, _, h => by
    obtain ⟨x, r, rfl, _, t⟩ := h.c
    rw [List.length_cons, List.length_cons, TpAll.len t]
theorem TpAll.get : ∀ {ds : List PyData} {xs : List V}, TpAll K H ds xs → ∀ {i : Nat} {x : V}, xs[i]? = some x → ∃ d, ds[i]? = some d ∧ Tp K H d x
  | [], _, h, i, x, e => by rw [h.n] at e; cases i <;> cases e
  | d :: ds, _, h, i, x, e => by
    obtain ⟨y, r, rfl, h1, t⟩ := h.c
    cases i with
    | zero => cases e; exact ⟨d, rfl, h1⟩
    | succ i => exact TpAll.get t (i := i) e
theorem TpAll.snoc : ∀ {ds : List PyData} {xs : List V} {d : PyData} {x : V}, TpAll K H ds xs → Tp K H d x → TpAll K H (ds ++ [d]) (xs ++ [x])
  | [], _, d, x, h, q => by rw [h.n]; exact tpa_cons q tpa_nil
  | _ :: ds, _, d, x, h, q => by
    obtain ⟨y, r, rfl, h1, t⟩ := h.c
    exact tpa_cons h1 (TpAll.snoc t q)
theorem TpAll.append : ∀ {ds es : List PyData} {xs ys : List V}, TpAll K H ds xs → TpAll K H es ys → TpAll K H (ds ++ es) (xs ++ ys)
  | [], es, _, ys, h, q => by rw [h.n]; exact q
  | _ :: ds, es, _, ys, h, q => by
    obtain ⟨y, r, rfl, h1, t⟩ := h.c
    exact tpa_cons h1 (TpAll.append t q)
end
/-! ### how the program's data are written -/
def Src.name : Src → Str
  | .count => "count"
  | .n k => ("n" : Str) ++ toString (k : Int)
def encA : Am → PyData
  | .lit i => .int i
  | .src t s m => .tuple [.int t, .str s.name, .int m]
def wname (j : Nat) : Str := (["leaf", "go", "x", "star", "turn", "backward"] : List Str).getD j ""
def encB : B → List PyData
  | .nil => []
  | .go a r => .tuple [.str "go", encA a] :: encB r
  | .turn a r => .tuple [.str "turn", encA a] :: encB r
  | .ink a r => .tuple [.str "ink", encA a] :: encB r
  | .pen d r => .tuple [.str (if d then "down" else "up")] :: encB r
  | .mark k r => .tuple [.str "mark", .int k] :: encB r
  | .back k r => .tuple [.str "back", .int k] :: encB r
  | .again a b r => .tuple [.str "again", encA a, .tuple (encB b)] :: encB r
  | .ite a b e r => .tuple [.str "if", encA a, .tuple (encB b), .tuple (encB e)] :: encB r
  | .call j as r => .tuple [.str "do", .str (wname j), .tuple (as.map encA)] :: encB r
def encH : B → PyData
  | .nil => .none
  | .go a _ => .tuple [.str "go", encA a]
  | .turn a _ => .tuple [.str "turn", encA a]
  | .ink a _ => .tuple [.str "ink", encA a]
  | .pen d _ => .tuple [.str (if d then "down" else "up")]
  | .mark k _ => .tuple [.str "mark", .int k]
  | .back k _ => .tuple [.str "back", .int k]
  | .again a b _ => .tuple [.str "again", encA a, .tuple (encB b)]
  | .ite a b e _ => .tuple [.str "if", encA a, .tuple (encB b), .tuple (encB e)]
  | .call j as _ => .tuple [.str "do", .str (wname j), .tuple (as.map encA)]
theorem encB_cons {b : B} (h : b ≠ .nil) : encB b = encH b :: encB b.tail := by cases b <;> first | exact absurd rfl h | rfl
theorem encB_nil {b : B} : encB b = [] ↔ b = .nil := by cases b <;> simp [encB]
theorem encB_len (b : B) : (encB b).length = blen b := by induction b <;> simp_all [encB, blen]
def encP (p : Pt) : PyData := .tuple [.tuple [.int p.ax, .int p.bx], .tuple [.int p.ay, .int p.cy]]
def encS (s : Int × Pt × Pt) : PyData := .tuple [.int s.1, encP s.2.1, encP s.2.2]
def encW (i : Nat) (w : Nat × B) : PyData := .tuple [.str (wname i), .int w.1, .tuple (encB w.2)]
def encWs : Nat → Ws → List PyData
  | _, [] => []
  | i, w :: r => encW i w :: encWs (i + 1) r
def encProg (p : Prog) : PyData := .tuple [.tuple (encWs 0 p.ws), .tuple (encB p.body)]
/-! ### heaps -/
/-- all but the things of S stays -/
def Keep (S : Addr → Prop) (H H' : Hp) : Prop := ∀ b o, ¬ S b → H b = some o → H' b = some o
theorem Keep.refl (S : Addr → Prop) (H : Hp) : Keep S H H := fun _ _ _ h => h
theorem Keep.trans {S : Addr → Prop} {H H1 H2 : Hp} (a : Keep S H H1) (b : Keep S H1 H2) : Keep S H H2 := fun c o n h => b c o n (a c o n h)
theorem Keep.of {S : Addr → Prop} {H H' : Hp} (s : Same H H') : Keep S H H' := fun b o _ h => s b o h
theorem Keep.upd {S : Addr → Prop} {H : Hp} {a : Addr} {o : HO} (h : S a) : Keep S H (upd H a o) := fun b u n e => by
  rw [upd_ne (fun z => n (by rw [z]; exact h))]
  exact e
theorem same_new {H : Hp} {p : Addr} (h : H p = none) (o : HO) : Same H (upd H p o) := fun b u q => by
  rw [upd_ne (ne_of_none q h)]
  exact q
theorem tups_new {H : Hp} {p : Addr} (h : H p = none) (o : HO) : Tups H (upd H p o) := .same (same_new h o)
/-- a thing that is no tuple is changed -/
theorem tups_upd {H : Hp} {a : Addr} {o u : HO} (h : H a = some o) (n : (∀ xs, o ≠ .tup xs) ∧ ∀ q v, o ≠ .frz q v) : Tups H (upd H a u) := fun b xs r => by
  have ne : b ≠ a := by
    rintro rfl
    rcases r with r | ⟨q, r⟩
    · rw [h] at r; exact n.1 xs (Option.some.inj r)
    · rw [h] at r; exact n.2 q _ (Option.some.inj r)
  rcases r with r | ⟨q, r⟩
  · exact .inl (by rw [upd_ne ne]; exact r)
  · exact .inr ⟨q, by rw [upd_ne ne]; exact r⟩
theorem sqt_new {K : PySem.W.Frag} {H : Hp} {p : Addr} {xs : List V} : SqT K (upd H p (.tup xs)) p xs := SqT.of upd_same
theorem ifs_eq {x : Str} {A B : Prop} (h : A) : if decide (V.str x = V.str x) = true then A else B := by
  rw [if_pos (decide_eq_true rfl)]
  exact h
theorem ifs_ne {x y : Str} {A B : Prop} (n : x ≠ y) (h : B) : if decide (V.str x = V.str y) = true then A else B := by
  rw [if_neg (by rw [decide_eq_false (fun z => n (V.str.inj z))]; exact Bool.false_ne_true)]
  exact h
theorem ifi_of {i j : Int} {A B : Prop} (h1 : i = j → A) (h2 : i ≠ j → B) : if decide (V.int i = V.int j) = true then A else B := by
  by_cases c : i = j
  · rw [if_pos (decide_eq_true (congrArg V.int c))]
    exact h1 c
  · rw [if_neg (by rw [decide_eq_false (fun z => c (V.int.inj z))]; exact Bool.false_ne_true)]
    exact h2 c
theorem ifd {c : Prop} [Decidable c] {A B : Prop} (h1 : c → A) (h2 : ¬ c → B) : if decide c = true then A else B := by
  by_cases h : c
  · rw [if_pos (decide_eq_true h)]
    exact h1 h
  · rw [if_neg (by rw [decide_eq_false h]; exact Bool.false_ne_true)]
    exact h2 h
theorem ifn_of {i j : Int} {A B : Prop} (h1 : i ≠ j → A) (h2 : i = j → B) : if (!decide (V.int i = V.int j)) = true then A else B := by
  by_cases c : i = j
  · rw [if_neg (by rw [decide_eq_true (congrArg V.int c)]; exact Bool.false_ne_true)]
    exact h2 c
  · rw [if_pos (by rw [decide_eq_false (fun z => c (V.int.inj z))]; rfl)]
    exact h1 c
theorem drop_at {α : Type} {l : List α} {i : Nat} {x : α} (h : l[i]? = some x) : l.drop i = x :: l.drop (i + 1) := by
  obtain ⟨h1, h2⟩ := List.getElem?_eq_some_iff.mp h
  rw [← h2]
  exact List.drop_eq_getElem_cons h1
end TH
set_option Elab.async false
set_option linter.all false
set_option maxRecDepth 100000
set_option maxHeartbeats 4000000
namespace TH
open PySem PySem.Spec PyProof.Rows L2 RT
/-! ### list(reversed(xs)) -/
section
variable {prog : Program} {w : World} {A : Around} {E : Value → Shared → Prop} {s : Shared}
theorem extend_rev {R : Result → Shared → Prop} {it l : Addr} {items : Array Value} (hh : A.handled = none) (hit : s.heap.IsRevIter it l ((items.size : Int) - 1)) (hl : s.heap.IsList l items) (hne : l ≠ it) (hn : items.size ≤ sizeLine)
    (S : Addr) (hSi : S ≠ it) (hSl : S ≠ l) (res : Value) (c0 : Nat) (hS : s.heap.get? S = some { cls := .type "list", data := .seq #[] c0 })
    (hR : ∀ h' tk acc' c', (∀ b o, b ≠ S → b ≠ it → s.heap.get? b = some o → h'.get? b = some o) → h'.get? S = some { cls := .type "list", dict := none, data := .seq acc' c', slots := #[] } →
      ItemsOf (fun i v => items[items.size - 1 - i]? = some v) acc' items.size → R (.ok (.ret res)) { s with heap := h', toks := tk }) :
    wpAny (model prog w) A.in1 (Builtin.List.listExtendWith (.ref S) (.ref it) res)
      (fun fin s' => match fin with | .done f => R (.ok f) s' | .again c' => c'.quiet = true ∧ codeAny (model prog w) A c' R s') (fun e s' => R (.error e) s') s := by
  have W := (Walks.listRev (prog := prog) (w := w) (A := A.in1) hh it l hne items).toS
  have hSf : S ∉ [it, l] := by simp only [List.mem_cons, List.not_mem_nil, or_false, not_or]; exact ⟨hSi, hSl⟩
  have hT : s.TypeIs (.ref it) "list_reverseiterator" := hit.typeIs
  have h1 : Builtin.List.listSameRef (.ref S) (.ref it) = false := by simp [Builtin.List.listSameRef, hSi]
  have h2 : (Value.type "list_reverseiterator" == Value.type "list") = false := by decide
  have h3 : (Value.type "list_reverseiterator" == Value.type "tuple") = false := by decide
  unfold Builtin.List.listExtendWith
  refine wpAny_bind (wpAny_typeOf hT ?_)
  simp only [h1, h2, h3, Bool.or_false, Bool.false_eq_true, if_false]
  refine wpAny_bind (wpAny_pyIter_revIter hit ?_)
  refine wpAny_bind (wpAny_holding ?_)
  unfold Builtin.List.listLengthHint
  refine wpAny_bind (wpAny_specialOf hT nolen_lri ?_)
  show wpAny _ A.in1 (specialOf (Value.ref it) (Str.ofString "__length_hint__") >>= _) _ _ _
  refine wpAny_bind (wpAny_specialOf hT hint_lri ?_)
  generalize hid : ("list_reverseiterator.__length_hint__" : String) = id0
  wp_delta
  rw [show splitId id0 = some ("list_reverseiterator", "__length_hint__") from by subst hid; decide +kernel]
  subst hid
  refine wpAny_bind (wpAny_isInstance (b := true) hT (by rw [isSubtype_type]; kernel_rfl) ?_)
  refine wpAny_pure ?_
  rw [if_neg (by decide)]
  have e0 : ((items.size : Nat) : Int) - 1 - ((0 : Nat) : Int) = (items.size : Int) - 1 := by omega
  refine wpAny_pure ⟨plainId_quiet F.plain_extend_loop _, codeAny_extend_loopS W hn S hSf res items.size 0 _ #[] c0 rfl (Nat.zero_le _) ⟨Nat.zero_le _, by rw [e0]; exact hit, hl⟩ hS (ItemsOf.nil _) fun s' acc' c' hm hS' hacc => ?_⟩
  rw [Moved.eq_with hm]
  refine hR s'.heap s'.toks acc' c' (fun b o hb hb2 e => hm.heap b o (fun hmem => ?_) e) hS' hacc
  rcases List.mem_cons.mp hmem with e' | hmem
  · exact hb e'
  · exact hb2 (List.mem_singleton.mp hmem)
theorem init_rev {R : Result → Shared → Prop} {it l : Addr} {items : Array Value} (hh : A.handled = none) (hit : s.heap.IsRevIter it l ((items.size : Int) - 1)) (hl : s.heap.IsList l items) (hne : l ≠ it) (hn : items.size ≤ sizeLine)
    (S : Addr) (hSi : S ≠ it) (hSl : S ≠ l) (hS : s.heap.get? S = some { cls := .type "list", data := .seq #[] })
    (hR : ∀ h' tk acc' c', (∀ b o, b ≠ S → b ≠ it → s.heap.get? b = some o → h'.get? b = some o) → h'.get? S = some { cls := .type "list", dict := none, data := .seq acc' c', slots := #[] } →
      ItemsOf (fun i v => items[items.size - 1 - i]? = some v) acc' items.size → R (.ok (.ret .none)) { s with heap := h', toks := tk }) :
    wpAny (model prog w) A.in1 (Builtin.«list.__init__» ⟨[.ref S, .ref it], []⟩)
      (fun fin s' => match fin with | .done f => R (.ok f) s' | .again c' => c'.quiet = true ∧ codeAny (model prog w) A c' R s') (fun e s' => R (.error e) s') s := by
  show wpAny _ _ (do let old ← Builtin.List.listItems (.ref S); Builtin.List.listUpdate (.ref S) (fun _ => #[]); letGo old.toList.reverse; Builtin.List.listExtendWith (.ref S) (.ref it) .none) _ _ s
  refine wpAny_bind ?_
  unfold Builtin.List.listItems
  refine wpAny_bind (wpAny_seqItems hS rfl (wpAny_pure ?_))
  show wpAny _ _ (updateSeq S (fun _ => #[]) >>= fun _ => letGo (#[] : Array Value).toList.reverse >>= fun _ => Builtin.List.listExtendWith (.ref S) (.ref it) .none) _ _ s
  refine wpAny_bind (wpAny_updateSeq hS rfl ?_)
  have hS2 := Heap.get?_update_self (Obj.mapSeq (fun _ => (#[] : Array Value))) hS rfl
  have oth : ∀ b o, b ≠ S → s.heap.get? b = some o → (s.heap.update S (Obj.mapSeq (fun _ => (#[] : Array Value)))).get? b = some o :=
    fun b o hb e => (Heap.get?_update_other _ _ (Ne.symm hb)).trans e
  refine wpAny_bind (wpAny_letGo ?_)
  refine extend_rev (s := { s with heap := s.heap.update S (Obj.mapSeq (fun _ => (#[] : Array Value))) }) hh (hit.at fun o e => oth it o (Ne.symm hSi) e) (hl.at fun o e => oth l o (Ne.symm hSl) e) hne hn S hSi hSl .none _ hS2 fun h' tk acc' c' hk hS' hacc => ?_
  exact hR h' tk acc' c' (fun b o hb hb2 e => hk b o hb hb2 (oth b o hb e)) hS' hacc
theorem call_list_rev {it l : Addr} {items : Array Value} {Q : Value → Shared → Prop} (hh : A.handled = none) (hit : s.heap.IsRevIter it l ((items.size : Int) - 1)) (hl : s.heap.IsList l items) (hne : l ≠ it) (hn : items.size ≤ sizeLine)
    (hQ : ∀ h' tk acc' c', (∀ b o, b ≠ it → s.heap.get? b = some o → h'.get? b = some o) → h'.get? s.heap.objs.size = some { cls := .type "list", dict := none, data := .seq acc' c', slots := #[] } →
      ItemsOf (fun i v => items[items.size - 1 - i]? = some v) acc' items.size → Q (.ref s.heap.objs.size) { s with heap := h', toks := tk }) :
    wpAny (model prog w) A (call (.type "list") [.ref it]) Q E s := by
  refine callType_codes (Q₁ := fun obj s₁ => obj = .ref s.heap.objs.size ∧ s₁ = { s with heap := s.heap.push { cls := .type "list", data := .seq #[] } }) F.called_list (F.typeCall_list_1 _) F.entry_list_init
    (code_list_new _ ⟨rfl, rfl⟩) fun obj s₁ h₁ => ?_
  obtain ⟨rfl, rfl⟩ := h₁
  have hS : (s.heap.push { cls := .type "list", data := .seq #[] }).get? s.heap.objs.size = some { cls := .type "list", data := .seq #[] } := Heap.get?_push_size _ rfl
  obtain ⟨oi, hoi, _⟩ := id hit
  obtain ⟨ol, hol, _⟩ := id hl
  have hSi : s.heap.objs.size ≠ it := Nat.ne_of_gt (Heap.lt_size hoi)
  have hSl : s.heap.objs.size ≠ l := Nat.ne_of_gt (Heap.lt_size hol)
  refine ⟨⟨_, hS, rfl⟩, F.args_list_init_2 _ _, init_rev (A := A.in1) (s := { s with heap := s.heap.push { cls := .type "list", data := .seq #[] } }) hh (hit.at fun o e => Heap.get?_push_of_some _ e) (hl.push _) hne hn _ hSi hSl hS fun h' tk acc' c' hk hS' hacc => ?_⟩
  exact ⟨rfl, hQ h' tk acc' c' (fun b o hb e => hk b o (Nat.ne_of_lt (Heap.lt_size e)) hb (Heap.get?_push_of_some _ e)) hS' hacc⟩
end
section
variable {X : Cx}
/-- list(reversed(x)), x a list: a new list -/
def tLstRev (K : PySem.W.Frag) (te : TE) : TE := fun σ H Q => te σ H fun v H1 => ∃ (a : Addr) (xs : List V), v = .ref a ∧ SqL K H1 a xs ∧ ∀ q, H1 q = none → Q (.ref q) (upd H1 q (.lst xs.reverse))
theorem pe_lstRev {e : Expr} {te : TE} {p p2 pos pos2 : Pos} (hc : X.calm = true) (hg : Gl X "list") (hm : X.mg "list" = none) (hg2 : Gl X "reversed") (hm2 : X.mg "reversed" = none) (he : PE X e te)
    (hs : starEach [e] X.env = (false, eval e X.env) :: starEach [] X.env := by rfl)
    (hs2 : starEach [.Call (.Name "reversed" p2) [e] [] pos2] X.env = (false, eval (.Call (.Name "reversed" p2) [e] [] pos2) X.env) :: starEach [] X.env := by rfl) :
    PE X (.Call (.Name "list" p) [.Call (.Name "reversed" p2) [e] [] pos2] [] pos) (tLstRev X.K te) := by
  refine ⟨fun pins s σ H Q I h => ?_⟩
  refine Call_ (ld_blt I hg hm PyProof.Rows.boot_list (PyProof.Rows.callWith_type1 (args_cons (Call_ (ld_blt I hg2 hm2 PyProof.Rows.boot_reversed (PyProof.Rows.callWith_type1 (args_cons (thn (he.run pins s σ H _ I h) fun u s1 ⟨v, H1, I1, r1, q1⟩ => args_nil ?_) hs) hs rfl))) hs2) hs2 rfl))
  obtain ⟨a, xs, ev, hq, q⟩ := q1
  subst ev
  obtain rfl : u = Value.ref a := r1
  obtain ⟨its, rv, p', hz⟩ := I1.list hq
  refine call_reversed_list p'.isList (args_nil ?_)
  have k0 : ∀ b o, s1.heap.get? b = some o → (s1.heap.push (revObj a ((its.toArray.size : Int) - 1))).get? b = some o := fun b o e => Heap.get?_push_of_some _ e
  have I2 : Inv X pins σ H1 { s1 with heap := s1.heap.push (revObj a ((its.toArray.size : Int) - 1)) } := I1.kept (t' := s1.toks) k0
  obtain ⟨f0, f1, f2, f3, f4, f5⟩ := I1.fpOk (H' := H1) (b := s1.heap.objs.size) (Nat.le_refl _) (I1.hok.fresh (Nat.le_refl _))
  have hl := p'.isList
  obtain ⟨ol, hol, _⟩ := id hl
  have hne : a ≠ s1.heap.objs.size := Nat.ne_of_lt (Heap.lt_size hol)
  have hn : its.toArray.size ≤ sizeLine := by rw [List.size_toArray, ← rv.length]; exact hz
  refine call_list_rev (s := { s1 with heap := s1.heap.push (revObj a ((its.toArray.size : Int) - 1)) }) (I1.ok.hd hc) ⟨_, Heap.get?_push_size _ rfl, rfl, rfl⟩ (hl.push _) hne hn fun h' tk acc c' hk hS hi => ?_
  refine ⟨.ref _, _, I2.turnedNew (t' := tk) (ch := [s1.heap.objs.size]) (ob := .lst xs.reverse) (fun b o hb e => hk b o (fun z => hb (by rw [z]; exact List.mem_singleton.mpr rfl)) e)
    (fun b hb => ?_) (Nat.le_refl _) ⟨by rw [List.length_reverse]; exact hz, acc.toList, c', vals_rev rv hi, ?_⟩, rfl, q _ (I2.hok.fresh (Nat.le_refl _))⟩
  · rw [List.mem_singleton.mp hb]
    exact ⟨f0, f1, f2, f3, f4, f5⟩
  · rw [Array.toArray_toList]
    exact hS
/-! ### a target o.f -/
def gFld (K : PySem.W.Frag) (to : TE) (f : Str) : TG := fun v σ H Q => to σ H fun x H1 => ∃ a C dx fs, x = .ref a ∧ H1 a = some (.ins C dx fs) ∧ Cls K C ∧ NoAttr K C f ∧ fs.length < 1000 ∧ Q σ (upd H1 a (.ins C dx (putF f v fs)))
theorem pg_fld {o : Expr} {f : Str} {pos : Pos} {to : TE} (ho : PE X o to) : PG X (.Attribute o f pos) (gFld X.K to f) := by
  refine ⟨fun pins s σ H v u Q I r h => ?_⟩
  refine PySem.W.kas_attr (thn (ho.run pins s σ H _ I h) fun ov s1 ⟨x, H1, I1, rx, a, C, dx, fs, ex, ea, c, n, l, q⟩ => ?_)
  subst ex
  obtain rfl : ov = Value.ref a := rx
  exact setattr_ok I1 ea c n l r fun s2 I2 => ⟨σ, _, I2, q⟩
/-! ### max of three ints -/
def rMax3 : List V → Hp → VK → Prop := fun xs H Q => ∃ i j k : Int, xs = [.int i, .int j, .int k] ∧ Q (.int (max (max i j) k)) H
theorem call_max3I (hc : X.calm = true) : CallR X (.builtin "max") rMax3 := by
  intro pins s σ H xs us Q I r h
  obtain ⟨i, j, k, e, q⟩ := h
  refine call_max3Nu hc pins s σ H xs us Q I r ⟨.int i, .int j, .int k, .int (max (max i j) k), e, ?_, q⟩
  have m2 : ∀ a b : Int, nuMax2 (.int a) (.int b) = some (.int (max a b)) := by
    intro a b
    show (nuLt (.int a) (.int b)).map _ = _
    show some (if decide (a < b) = true then V.int b else V.int a) = _
    by_cases c : a < b
    · rw [if_pos (decide_eq_true c), show max a b = b by omega]
    · rw [if_neg (by rw [decide_eq_false c]; exact Bool.false_ne_true), show max a b = a by omega]
  show (nuMax2 (.int i) (.int j)).bind _ = _
  rw [m2]
  exact m2 _ _
end
end TH
set_option Elab.async false
set_option linter.all false
set_option maxRecDepth 100000
set_option maxHeartbeats 4000000
namespace TH
open PySem PySem.Spec PyProof.Rows L2
/-! ### the text by places -/
def top (i : Nat) : Stmt := PySem.Challenge.pw_turtlehouse_k52_whole_larger.main.body.getD i (.Pass ⟨0, 0, 0, 0⟩)
/-- the built-in names that the text leaves alone -/
structure Bl (mg : Str → Option Value) : Prop where
  isi : mg "isinstance" = none
  tup : mg "tuple" = none
  max : mg "max" = none
  min : mg "min" = none
  abs : mg "abs" = none
  int : mg "int" = none
  range : mg "range" = none
  len : mg "len" = none
  list : mg "list" = none
  rev : mg "reversed" = none
  str : mg "str" = none
  zip : mg "zip" = none
/-- a def of the text, called by its name -/
structure Dn (P : Program) (w : World) (K : PySem.W.Frag) (mg : Str → Option Value) (base : Heap) (CX : CXT) (k : Nat) (x : Str) (f : Addr) (fd : FuncData) (ps : List Str) (sp : Sp) : Prop where
  ok : FnOk P w K mg base CX k f fd ps sp
  g : mg x = some (.ref f)
  kp : PySem.W.keepIn K (.ref f) = true
  b : Binds K fd ps []
theorem tyx_tup {K : PySem.W.Frag} {H : Hp} {a : Addr} {xs : List V} (h : SqT K H a xs) : TyX K H (.ref a) (.type "tuple") := by
  rcases h with (h | ⟨o, h⟩) | ⟨o, its, n, h, c, _⟩
  · exact .base (.tup h)
  · exact .fTuple h
  · exact .kTuple h c
theorem dn_call {X : Cx} {CX : CXT} {k j : Nat} {x : Str} {f : Addr} {fd : FuncData} {ps : List Str} {sp : Sp} {E : XK} {p pos : Pos} {e : Expr} {es : List Expr} {t : TA}
    (D : Dn X.prog X.w X.K X.mg X.base CX k x f fd ps sp) (hr : Room j X.A) (hk : k ≤ j) (hg : Gl X x) (hx : Passes CX X E) (ha : PA X (e :: es) t) (hdb : (x == ("__debug__" : Str)) = false := by decide)
    (he : starEach (e :: es) X.env = (false, eval e X.env) :: starEach es X.env := by rfl) (hpl : (backTo pos (starEach es X.env)).any (·.1) = false := by rfl) :
    PE X (.Call (.Name x p) (e :: es) [] pos) (tCall sp [] E t) := pe_call D.ok (hr.mono hk) hg D.g D.kp D.b .nil hx ha hdb he hpl
theorem len3 : 3 ≤ sizeLine := by rw [sizeLine_eq]; decide
theorem len2 : 2 ≤ sizeLine := by rw [sizeLine_eq]; decide
theorem len1 : 1 ≤ sizeLine := by rw [sizeLine_eq]; decide
theorem len4 : 4 ≤ sizeLine := by rw [sizeLine_eq]; decide
theorem len5 : 5 ≤ sizeLine := by rw [sizeLine_eq]; decide
end TH
set_option Elab.async false
set_option linter.all false
set_option maxRecDepth 100000
set_option maxHeartbeats 4000000
namespace TH
open PySem PySem.Spec PyProof.Rows L2
abbrev sTimes : Stmt := top 6
abbrev IntOk (F : Int) : Prop := -(2 ^ 64) < F ∧ F < 2 ^ 64
def spTimes (K : PySem.W.Frag) : Sp := fun vs H Q _ => ∃ (v : V) (a : Am) (F : Int), vs = [v, .int F] ∧ IntOk F ∧ Tp K H (encA a) v ∧
  ∀ v' H', Same H H' → Tp K H' (encA (a.times F)) v' → Q v' H'
section
variable {P : Program} {w : World} {K : PySem.W.Frag} {mg : Str → Option Value} {base : Heap}
theorem sc_times : FnScope ["amount", "times"] ["amount", "times"] (defScope sTimes) := ⟨rfl, rfl, rfl, by decide +kernel, rfl, by decide +kernel, by decide +kernel⟩
theorem ok_times {f : Addr} {fd : FuncData} (F : Fun K "times_over" "times_over" sTimes f fd) (B : Bl mg) : FnOk P w K mg base CX0 1 f fd ["amount", "times"] (spTimes K) := by
  refine F.ok sc_times (fun vs H Q E h => ?_) (fun cdv A outer s H vs Q E hr h => ?_)
  · obtain ⟨v, a, F, rfl, _⟩ := h
    rfl
  obtain ⟨v, a, F, rfl, hF, ha, q⟩ := h
  refine ⟨_, pss_cons (ps_if (pt_val (pe_callB call_isi (by rfl) B.isi (by decide +kernel) (pa_cons (pv 0) (pa_cons (pe_bltn (v := .ty "tuple") (by rfl) B.tup boot_tuple rfl) pa_nil))))
      (pss_one (ps_ret (pe_tup (pa_cons (pe_op op_mul (pe_ix ix_tup (pv 0) pe_int (fun _ _ => rfl)) (pv 1)) (pa_cons (pe_ix ix_tup (pv 0) pe_int (fun _ _ => rfl)) (pa_cons (pe_op op_mul (pe_ix ix_tup (pv 0) pe_int (fun _ _ => rfl)) (pv 1)) pa_nil)))))) pss_nil)
    (pss_one (ps_ret (pe_op op_mul (pv 0) (pv 1)))), ?_⟩
  cases a with
  | lit i =>
    obtain rfl := Tp.i ha
    refine ⟨_, rfl, .int i, .ty "tuple", _, _, false, rfl, .ty _, .base (.int i), kit_ty (by decide +kernel), _, rfl, iteF ?_⟩
    refine ⟨_, rfl, _, rfl, _, _, rfl, rfl, .inr hF, ?_⟩
    exact q _ _ (Same.refl _) tp_int
  | src t s m =>
    obtain ⟨p, xs, rfl, hs, hx⟩ := Tp.t ha
    obtain ⟨x1, r1, rfl, h1, hx⟩ := hx.c
    obtain ⟨x2, r2, rfl, h2, hx⟩ := hx.c
    obtain ⟨x3, r3, rfl, h3, hx⟩ := hx.c
    obtain rfl := hx.n
    obtain rfl := h1.i
    obtain rfl := h2.s
    obtain rfl := h3.i
    refine ⟨_, rfl, .ref p, .ty "tuple", _, _, true, rfl, .ty _, tyx_tup hs, kit_ty (by decide +kernel), _, rfl, iteT ?_⟩
    refine ⟨_, rfl, p, _, _, _, rfl, rfl, hs, atI_nat (j := 0) rfl, _, rfl, _, _, rfl, rfl, .inr hF, ?_⟩
    refine ⟨_, rfl, p, _, _, _, rfl, rfl, hs, atI_nat (j := 1) rfl, ?_⟩
    refine ⟨_, rfl, p, _, _, _, rfl, rfl, hs, atI_nat (j := 2) rfl, _, rfl, _, _, rfl, rfl, .inr hF, len3, fun z hz => ?_⟩
    exact q _ _ (same_new hz _) (tp_tup sqt_new (tpa_cons tp_int (tpa_cons tp_str (tpa_cons tp_int tpa_nil))))
end
end TH
set_option Elab.async false
set_option linter.all false
set_option maxRecDepth 100000
set_option maxHeartbeats 4000000
namespace TH
open PySem PySem.Spec PyProof.Rows L2
abbrev sWith : Stmt := top 7
def spWith (K : PySem.W.Frag) (n : Nat) : Sp := fun vs H Q _ => ∃ (v : V) (b : B) (d : Nat) (F : Int), vs = [v, .str "go", .int F] ∧ IntOk F ∧ Tp K H (.tuple (encB b)) v ∧ Fit b d ∧ d < n ∧ blen b ≤ 50 ∧
  ∀ v' H', Same H H' → Tp K H' (.tuple (encB (b.larger F))) v' → Q v' H'
theorem go_again : ("again" : Str) ≠ "go" := by decide +kernel
theorem go_if : ("if" : Str) ≠ "go" := by decide +kernel
theorem larger_head {b : B} {F : Int} (h : ∀ a r, b ≠ .go a r) (h2 : ∀ a c r, b ≠ .again a c r) (h3 : ∀ a c e r, b ≠ .ite a c e r) : encH (b.larger F) = encH b := by
  cases b <;> first | rfl | exact absurd rfl (h _ _) | exact absurd rfl (h2 _ _ _) | exact absurd rfl (h3 _ _ _ _)
/-- the first thing of a statement -/
def hname : B → Str
  | .nil => ""
  | .go _ _ => "go"
  | .turn _ _ => "turn"
  | .ink _ _ => "ink"
  | .pen d _ => if d then "down" else "up"
  | .mark _ _ => "mark"
  | .back _ _ => "back"
  | .again _ _ _ => "again"
  | .ite _ _ _ _ => "if"
  | .call _ _ _ => "do"
theorem head_tp {K : PySem.W.Frag} {H : Hp} {b : B} {x : V} (hb : b ≠ .nil) (h : Tp K H (encH b) x) : ∃ (p : Addr) (r : List V), x = .ref p ∧ SqT K H p (.str (hname b) :: r) := by
  cases b with
  | nil => exact absurd rfl hb
  | go a r => obtain ⟨p, xs, rfl, s, t⟩ := h.t; obtain ⟨y, r, rfl, h1, _⟩ := t.c; rw [h1.s] at s; exact ⟨p, _, rfl, s⟩
  | turn a r => obtain ⟨p, xs, rfl, s, t⟩ := h.t; obtain ⟨y, r, rfl, h1, _⟩ := t.c; rw [h1.s] at s; exact ⟨p, _, rfl, s⟩
  | ink a r => obtain ⟨p, xs, rfl, s, t⟩ := h.t; obtain ⟨y, r, rfl, h1, _⟩ := t.c; rw [h1.s] at s; exact ⟨p, _, rfl, s⟩
  | pen a r => obtain ⟨p, xs, rfl, s, t⟩ := h.t; obtain ⟨y, r, rfl, h1, _⟩ := t.c; rw [h1.s] at s; exact ⟨p, _, rfl, s⟩
  | mark a r => obtain ⟨p, xs, rfl, s, t⟩ := h.t; obtain ⟨y, r, rfl, h1, _⟩ := t.c; rw [h1.s] at s; exact ⟨p, _, rfl, s⟩
  | back a r => obtain ⟨p, xs, rfl, s, t⟩ := h.t; obtain ⟨y, r, rfl, h1, _⟩ := t.c; rw [h1.s] at s; exact ⟨p, _, rfl, s⟩
  | again a b r => obtain ⟨p, xs, rfl, s, t⟩ := h.t; obtain ⟨y, r, rfl, h1, _⟩ := t.c; rw [h1.s] at s; exact ⟨p, _, rfl, s⟩
  | ite a b e r => obtain ⟨p, xs, rfl, s, t⟩ := h.t; obtain ⟨y, r, rfl, h1, _⟩ := t.c; rw [h1.s] at s; exact ⟨p, _, rfl, s⟩
  | call j as r => obtain ⟨p, xs, rfl, s, t⟩ := h.t; obtain ⟨y, r, rfl, h1, _⟩ := t.c; rw [h1.s] at s; exact ⟨p, _, rfl, s⟩
theorem hname_go {b : B} (h : ∀ a r, b ≠ .go a r) : hname b ≠ "go" := by
  cases b with
  | nil  => exact (show ("" : Str) ≠ "go" by decide +kernel)
  | go a r => exact absurd rfl (h _ _)
  | turn a r => exact (show ("turn" : Str) ≠ "go" by decide +kernel)
  | ink a r => exact (show ("ink" : Str) ≠ "go" by decide +kernel)
  | mark k r => exact (show ("mark" : Str) ≠ "go" by decide +kernel)
  | back k r => exact (show ("back" : Str) ≠ "go" by decide +kernel)
  | again a c r => exact (show ("again" : Str) ≠ "go" by decide +kernel)
  | ite a c e r => exact (show ("if" : Str) ≠ "go" by decide +kernel)
  | call j as r => exact (show ("do" : Str) ≠ "go" by decide +kernel)
  | pen d r =>
    cases d
    · exact (show ("up" : Str) ≠ "go" by decide +kernel)
    · exact (show ("down" : Str) ≠ "go" by decide +kernel)
theorem hname_again {b : B} (h : ∀ a c r, b ≠ .again a c r) : hname b ≠ "again" := by
  cases b with
  | nil  => exact (show ("" : Str) ≠ "again" by decide +kernel)
  | go a r => exact (show ("go" : Str) ≠ "again" by decide +kernel)
  | turn a r => exact (show ("turn" : Str) ≠ "again" by decide +kernel)
  | ink a r => exact (show ("ink" : Str) ≠ "again" by decide +kernel)
  | mark k r => exact (show ("mark" : Str) ≠ "again" by decide +kernel)
  | back k r => exact (show ("back" : Str) ≠ "again" by decide +kernel)
  | again a c r => exact absurd rfl (h _ _ _)
  | ite a c e r => exact (show ("if" : Str) ≠ "again" by decide +kernel)
  | call j as r => exact (show ("do" : Str) ≠ "again" by decide +kernel)
  | pen d r =>
    cases d
    · exact (show ("up" : Str) ≠ "again" by decide +kernel)
    · exact (show ("down" : Str) ≠ "again" by decide +kernel)
theorem hname_if {b : B} (h : ∀ a c e r, b ≠ .ite a c e r) : hname b ≠ "if" := by
  cases b with
  | nil  => exact (show ("" : Str) ≠ "if" by decide +kernel)
  | go a r => exact (show ("go" : Str) ≠ "if" by decide +kernel)
  | turn a r => exact (show ("turn" : Str) ≠ "if" by decide +kernel)
  | ink a r => exact (show ("ink" : Str) ≠ "if" by decide +kernel)
  | mark k r => exact (show ("mark" : Str) ≠ "if" by decide +kernel)
  | back k r => exact (show ("back" : Str) ≠ "if" by decide +kernel)
  | again a c r => exact (show ("again" : Str) ≠ "if" by decide +kernel)
  | ite a c e r => exact absurd rfl (h _ _ _ _)
  | call j as r => exact (show ("do" : Str) ≠ "if" by decide +kernel)
  | pen d r =>
    cases d
    · exact (show ("up" : Str) ≠ "if" by decide +kernel)
    · exact (show ("down" : Str) ≠ "if" by decide +kernel)
section
variable {P : Program} {w : World} {K : PySem.W.Frag} {mg : Str → Option Value} {base : Heap}
theorem sc_with : FnScope ["body", "verb", "times", "found", "statement", "one"] ["body", "verb", "times"] (defScope sWith) := ⟨rfl, rfl, rfl, by decide +kernel, rfl, by decide +kernel, by decide +kernel⟩
theorem ok_with1 {n : Nat} {f fT : Addr} {fd fdT : FuncData} (F : Fun K "with_amounts" "with_amounts" sWith f fd) (B0 : Bl mg) (DT : Dn P w K mg base CX0 1 "times_over" fT fdT ["amount", "times"] (spTimes K))
    (D : Dn P w K mg base CX0 (n + 1) "with_amounts" f fd ["body", "verb", "times"] (spWith K n)) : FnOk P w K mg base CX0 (n + 2) f fd ["body", "verb", "times"] (spWith K (n + 1)) := by
  refine F.ok sc_with (fun vs H Q E h => ?_) (fun cdv A outer s H vs Q E hr h => ?_)
  · obtain ⟨v, b, d, F, rfl, _⟩ := h
    rfl
  obtain ⟨v, b, d, F, rfl, hF, hb, fit, hd, hlen, q⟩ := h
  obtain ⟨p, xs, rfl, hs, hx⟩ := Tp.t hb
  have hxl := hx.len
  rw [encB_len] at hxl
  refine ⟨_, pss_cons (ps_set (i := 3) sc_with.nd rfl (.inl rfl) (pe_lst pa_nil))
    (pss_cons (ps_for PassesOwn.never rfl (pi_tup (pv 0)) (pg_name (i := 4) sc_with.nd rfl (.inl rfl))
      (pss_one (ps_if (pt_cmpR op_eq (pe_ix ix_tup (pv 4) pe_int (fun _ _ => rfl)) (pv 1) (nomark _))
        (pss_one (ps_expr (pe_bm PySem.F.plainAttrs_list PySem.F.slot_list_append PySem.F.type_list_append mt_append (pv 3)
          (pa_cons (pe_tup (pa_cons (pv 1) (pa_cons (dn_call DT hr (by omega) rfl pass0 (pa_cons (pe_ix ix_tup (pv 4) pe_int (fun _ _ => rfl)) (pa_cons (pv 2) pa_nil))) pa_nil))) pa_nil))))
        (pss_one (ps_if (pt_cmpR op_eq (pe_ix ix_tup (pv 4) pe_int (fun _ _ => rfl)) pe_str (nomark _))
          (pss_one (ps_expr (pe_bm PySem.F.plainAttrs_list PySem.F.slot_list_append PySem.F.type_list_append mt_append (pv 3)
            (pa_cons (pe_tup (pa_cons pe_str (pa_cons (pe_ix ix_tup (pv 4) pe_int (fun _ _ => rfl)) (pa_cons (dn_call D hr (Nat.le_refl _) rfl pass0 (pa_cons (pe_ix ix_tup (pv 4) pe_int (fun _ _ => rfl)) (pa_cons (pv 1) (pa_cons (pv 2) pa_nil)))) pa_nil)))) pa_nil))))
          (pss_one (ps_if (pt_cmpR op_eq (pe_ix ix_tup (pv 4) pe_int (fun _ _ => rfl)) pe_str (nomark _))
            (pss_cons (ps_set (i := 5) sc_with.nd rfl (.inl rfl) (dn_call D hr (Nat.le_refl _) rfl pass0 (pa_cons (pe_ix ix_tup (pv 4) pe_int (fun _ _ => rfl)) (pa_cons (pv 1) (pa_cons (pv 2) pa_nil)))))
              (pss_one (ps_expr (pe_bm PySem.F.plainAttrs_list PySem.F.slot_list_append PySem.F.type_list_append mt_append (pv 3)
                (pa_cons (pe_tup (pa_cons pe_str (pa_cons (pe_ix ix_tup (pv 4) pe_int (fun _ _ => rfl)) (pa_cons (pv 5) (pa_cons (dn_call D hr (Nat.le_refl _) rfl pass0 (pa_cons (pe_ix ix_tup (pv 4) pe_int (fun _ _ => rfl)) (pa_cons (pv 1) (pa_cons (pv 2) pa_nil)))) pa_nil))))) pa_nil)))))
            (pss_one (ps_expr (pe_bm PySem.F.plainAttrs_list PySem.F.slot_list_append PySem.F.type_list_append mt_append (pv 3) (pa_cons (pv 4) pa_nil)))))))))))
    (pss_one (ps_ret (pe_callTy call_tuple_of (by rfl) B0.tup (by decide +kernel) (pa_cons (pv 3) pa_nil))))), ?_⟩
  -- found = []
  refine ⟨Nat.zero_le _, fun L hL => ?_⟩
  have s0 : Same H (upd H L (.lst [])) := same_new hL _
  refine ⟨_, rfl, p, rfl, ⟨_, (Tups.same s0).sq hs⟩, for_tup (K := K) (a := p) (xs := xs) (fun i σ H2 => ∃ (st one : Option V) (acc : List V) (pre : List PyData) (b2 : B), σ = [some (.ref p), some (.str "go"), some (.int F), some (.ref L), st, one] ∧ Same H H2 ∧
      H2 L = some (.lst acc) ∧ acc.length = i ∧ TpAll K H2 pre acc ∧ encB (b.larger F) = pre ++ encB (b2.larger F) ∧ TpAll K H (encB b2) (xs.drop i) ∧ Fit b2 d)
    ⟨none, none, [], [], b, rfl, s0, upd_same, rfl, tpa_nil, rfl, hx, fit⟩ (fun i σ H2 _ ⟨_, _, _, _, _, _, s2, _⟩ => (Tups.same s2).sq hs) ?_ ?_⟩
  · rintro i x σ H2 hi ⟨st, one, acc, pre, b2, rfl, s2, hacc, hal, hpre, henc, hrest, fit2⟩
    have hil : i < xs.length := (List.getElem?_eq_some_iff.mp hi).1
    rw [drop_at hi] at hrest
    have nb : b2 ≠ .nil := by
      rintro rfl
      obtain z := hrest.n
      cases z
    rw [encB_cons nb] at hrest
    obtain ⟨x', r', e', hh, htl⟩ := hrest.c
    obtain ⟨rfl, rfl⟩ := List.cons.inj e'
    have t2 := Tups.same s2
    obtain ⟨ps, rr, rfl, hps⟩ := head_tp nb hh
    have hps2 := t2.sq hps
    have lacc : acc.length < sizeLine := small1000 (by omega)
    have next : ∀ (H3 : Hp) (y : V) (one : Option V) (f2 : Fit b2.tail d), Same H2 H3 → Tp K H3 (encH (b2.larger F)) y →
        ∃ (st2 one2 : Option V) (acc' : List V) (pre : List PyData) (b3 : B), [some (V.ref p), some (V.str "go"), some (V.int F), some (V.ref L), some (V.ref ps), one] = [some (V.ref p), some (V.str "go"), some (V.int F), some (V.ref L), st2, one2] ∧ Same H (upd H3 L (.lst (acc ++ [y]))) ∧
          (upd H3 L (.lst (acc ++ [y]))) L = some (.lst acc') ∧ acc'.length = i + 1 ∧ TpAll K (upd H3 L (.lst (acc ++ [y]))) pre acc' ∧ encB (b.larger F) = pre ++ encB (b3.larger F) ∧ TpAll K H (encB b3) (xs.drop (i + 1)) ∧ Fit b3 d := by
      intro H3 y one f2 s3 hy
      have k3 : H3 L = some (.lst acc) := s3 _ _ hacc
      have t3 : Tups H3 (upd H3 L (.lst (acc ++ [y]))) := tups_upd k3 ⟨fun xs z => (by cases z), fun q v z => (by cases z)⟩
      refine ⟨_, _, acc ++ [y], pre ++ [encH (b2.larger F)], b2.tail, rfl, fun c o e => ?_, upd_same, by rw [List.length_append, hal]; rfl, ?_, ?_, htl, f2⟩
      · have ne : c ≠ L := ne_of_none e hL
        rw [upd_ne ne]
        exact s3 _ _ (s2 _ _ e)
      · exact TpAll.snoc (TpAll.mono ((Tups.same s3).trans t3) _ _ hpre) (Tp.mono t3 _ _ hy)
      · rw [henc, encB_cons (fun z => nb (larger_nil.mp z)), larger_tail, List.append_assoc]
        rfl
    by_cases c1 : ∃ a r, b2 = .go a r
    · obtain ⟨a, r, rfl⟩ := c1
      obtain ⟨_, ys, e1, hps, hy⟩ := Tp.t hh
      obtain rfl := V.ref.inj e1
      obtain ⟨y1, r1, rfl, h1, hy⟩ := hy.c
      obtain ⟨y2, r2, rfl, h2, hy⟩ := hy.c
      obtain rfl := hy.n
      obtain rfl := h1.s
      have hps2 := t2.sq hps
      refine ⟨_, rfl, ps, _, _, _, rfl, rfl, hps2, atI_nat (j := 0) rfl, _, rfl, rfl, _, rfl, ifs_eq ?_⟩
      refine ⟨_, rfl, .inl ⟨rfl, _, SqL.of hacc⟩, _, rfl, _, rfl, ps, _, _, _, rfl, rfl, hps2, atI_nat (j := 1) rfl, _, rfl, y2, a, F, rfl, hF, Tp.mono t2 _ _ h2, fun v' H3 s3 hv => ?_⟩
      refine ⟨len2, fun z hz => ?_⟩
      have s4 := same_new hz (.tup [V.str "go", v'])
      exact ⟨L, acc, _, rfl, rfl, s4 _ _ (s3 _ _ hacc), lacc, next _ _ one fit2 (s3.trans s4) (tp_tup sqt_new (tpa_cons tp_str (tpa_cons (Tp.mono (Tups.same s4) _ _ hv) tpa_nil)))⟩
    have n1 : ∀ a r, b2 ≠ .go a r := fun a r e => c1 ⟨a, r, e⟩
    refine ⟨_, rfl, ps, _, _, _, rfl, rfl, hps2, atI_nat (j := 0) rfl, _, rfl, rfl, _, rfl, ifs_ne (hname_go n1) ?_⟩
    by_cases c2 : ∃ a c r, b2 = .again a c r
    · obtain ⟨a, c, r, rfl⟩ := c2
      obtain ⟨_, ys, e1, hps, hy⟩ := Tp.t hh
      obtain rfl := V.ref.inj e1
      obtain ⟨y1, r1, rfl, h1, hy⟩ := hy.c
      obtain ⟨y2, r2, rfl, h2, hy⟩ := hy.c
      obtain ⟨y3, r3, rfl, h3, hy⟩ := hy.c
      obtain rfl := hy.n
      obtain rfl := h1.s
      have hps2 := t2.sq hps
      obtain ⟨⟨d1, fc, lc⟩, fr⟩ := fit2
      refine ⟨_, rfl, ps, _, _, _, rfl, rfl, hps2, atI_nat (j := 0) rfl, rfl, _, rfl, ifs_eq ?_⟩
      refine ⟨_, rfl, .inl ⟨rfl, _, SqL.of hacc⟩, _, rfl, ps, _, _, _, rfl, rfl, hps2, atI_nat (j := 1) rfl, _, rfl, ps, _, _, _, rfl, rfl, hps2, atI_nat (j := 2) rfl, _, rfl, _, rfl, y3, c, d - 1, F, rfl, hF, Tp.mono t2 _ _ h3, fc, by omega, lc, fun v' H3 s3 hv => ?_⟩
      refine ⟨len3, fun z hz => ?_⟩
      have s4 := same_new hz (.tup [V.str "again", y2, v'])
      exact ⟨L, acc, _, rfl, rfl, s4 _ _ (s3 _ _ hacc), lacc, next _ _ one fr (s3.trans s4) (tp_tup sqt_new (tpa_cons tp_str (tpa_cons (Tp.mono (t2.trans (Tups.same (s3.trans s4))) _ _ h2) (tpa_cons (Tp.mono (Tups.same s4) _ _ hv) tpa_nil))))⟩
    have n2 : ∀ a c r, b2 ≠ .again a c r := fun a c r e => c2 ⟨a, c, r, e⟩
    refine ⟨_, rfl, ps, _, _, _, rfl, rfl, hps2, atI_nat (j := 0) rfl, rfl, _, rfl, ifs_ne (hname_again n2) ?_⟩
    by_cases c3 : ∃ a c e r, b2 = .ite a c e r
    · obtain ⟨a, c, e, r, rfl⟩ := c3
      obtain ⟨_, ys, e1, hps, hy⟩ := Tp.t hh
      obtain rfl := V.ref.inj e1
      obtain ⟨y1, r1, rfl, h1, hy⟩ := hy.c
      obtain ⟨y2, r2, rfl, h2, hy⟩ := hy.c
      obtain ⟨y3, r3, rfl, h3, hy⟩ := hy.c
      obtain ⟨y4, r4, rfl, h4, hy⟩ := hy.c
      obtain rfl := hy.n
      obtain rfl := h1.s
      have hps2 := t2.sq hps
      obtain ⟨⟨d1, fc, fe, lc, le⟩, fr⟩ := fit2
      refine ⟨_, rfl, ps, _, _, _, rfl, rfl, hps2, atI_nat (j := 0) rfl, rfl, _, rfl, ifs_eq ?_⟩
      refine ⟨_, rfl, ps, _, _, _, rfl, rfl, hps2, atI_nat (j := 2) rfl, _, rfl, _, rfl, y3, c, d - 1, F, rfl, hF, Tp.mono t2 _ _ h3, fc, by omega, lc, fun v' H3 s3 hv => ?_⟩
      have t3 := Tups.same s3
      refine ⟨_, rfl, .inl ⟨rfl, _, SqL.of (s3 _ _ hacc)⟩, _, rfl, ps, _, _, _, rfl, rfl, t3.sq hps2, atI_nat (j := 1) rfl, _, rfl, _, rfl, ps, _, _, _, rfl, rfl, t3.sq hps2, atI_nat (j := 3) rfl, _, rfl, _, rfl, y4, e, d - 1, F, rfl, hF, Tp.mono (t2.trans t3) _ _ h4, fe, by omega, le, fun v2 H4 s4 hv2 => ?_⟩
      refine ⟨len4, fun z hz => ?_⟩
      have s5 := same_new hz (.tup [V.str "if", y2, v', v2])
      exact ⟨L, acc, _, rfl, rfl, s5 _ _ (s4 _ _ (s3 _ _ hacc)), lacc, next _ _ _ fr (s3.trans (s4.trans s5)) (tp_tup sqt_new (tpa_cons tp_str (tpa_cons (Tp.mono (t2.trans (Tups.same (s3.trans (s4.trans s5)))) _ _ h2) (tpa_cons (Tp.mono (Tups.same (s4.trans s5)) _ _ hv) (tpa_cons (Tp.mono (Tups.same s5) _ _ hv2) tpa_nil)))))⟩
    have n3 : ∀ a c e r, b2 ≠ .ite a c e r := fun a c e r z => c3 ⟨a, c, e, r, z⟩
    refine ⟨_, rfl, ps, _, _, _, rfl, rfl, hps2, atI_nat (j := 0) rfl, rfl, _, rfl, ifs_ne (hname_if n3) ?_⟩
    have ft : Fit b2.tail d := by
      cases b2 <;> first | exact fit2 | exact fit2.2
    refine ⟨_, rfl, .inl ⟨rfl, _, SqL.of hacc⟩, _, rfl, L, acc, _, rfl, rfl, hacc, lacc, next _ _ one ft (Same.refl _) ?_⟩
    rw [larger_head n1 n2 n3]
    exact Tp.mono t2 _ _ hh
  · rintro σ H2 ⟨st, one, acc, pre, b2, rfl, s2, hacc, hal, hpre, henc, hrest, fit2⟩
    rw [List.drop_length] at hrest
    have nb : b2 = .nil := by
      have z := hrest.len
      rw [encB_len] at z
      cases b2 <;> first | rfl | cases z
    subst nb
    refine ⟨_, rfl, L, _, rfl, .inl ⟨SqL.of hacc, fun l hl => ?_⟩⟩
    have s3 : Same H2 (upd H2 l (.tup acc)) := same_new hl _
    refine q _ _ (s2.trans s3) (tp_tup sqt_new ?_)
    rw [henc]
    show TpAll K _ (pre ++ []) acc
    rw [List.append_nil]
    exact TpAll.mono (Tups.same s3) _ _ hpre
end
end TH
set_option Elab.async false
set_option linter.all false
set_option maxRecDepth 100000
set_option maxHeartbeats 4000000
namespace TH
open PySem PySem.Spec PyProof.Rows L2
abbrev sAll : Stmt := top 8
structure Prog.Fits (p : Prog) : Prop where
  few : p.ws.length ≤ 6
  ws : ∀ w ∈ p.ws, Fit w.2 4 ∧ blen w.2 ≤ 50
  body : Fit p.body 4
  len : blen p.body ≤ 50
def spAll (K : PySem.W.Frag) : Sp := fun vs H Q _ => ∃ (v : V) (p : Prog) (F : Int), vs = [v, .str "go", .int F] ∧ IntOk F ∧ Tp K H (encProg p) v ∧ p.Fits ∧
  ∀ v' H', Same H H' → Tp K H' (encProg (p.larger F)) v' → Q v' H'
abbrev nAll : List Str := ["program", "verb", "times", "some", "words", "body", "name", "many", "own"]
section
variable {P : Program} {w : World} {K : PySem.W.Frag} {mg : Str → Option Value} {base : Heap}
theorem sc_all : FnScope nAll ["program", "verb", "times"] (defScope sAll) := ⟨rfl, rfl, rfl, by decide +kernel, rfl, by decide +kernel, by decide +kernel⟩
theorem ok_all {f fW : Addr} {fd fdW : FuncData} (F : Fun K "all_amounts" "all_amounts" sAll f fd) (B0 : Bl mg)
    (D : Dn P w K mg base CX0 6 "with_amounts" fW fdW ["body", "verb", "times"] (spWith K 5)) : FnOk P w K mg base CX0 7 f fd ["program", "verb", "times"] (spAll K) := by
  refine F.ok sc_all (fun vs H Q E h => ?_) (fun cdv A outer s H vs Q E hr h => ?_)
  · obtain ⟨v, p, F, rfl, _⟩ := h
    rfl
  obtain ⟨v, p, F, rfl, hF, hp, fit, q⟩ := h
  obtain ⟨a, xs, rfl, hs, hx⟩ := Tp.t hp
  obtain ⟨x1, r1, rfl, hw, hx⟩ := hx.c
  obtain ⟨x2, r2, rfl, hb, hx⟩ := hx.c
  obtain rfl := hx.n
  obtain ⟨aw, xw, rfl, hsw, hxw⟩ := Tp.t hw
  refine ⟨_, pss_cons (ps_asg (pv 0) (pg_tup rfl (pgs_cons (pg_name (i := 4) sc_all.nd rfl (.inl rfl)) (pgs_cons (pg_name (i := 5) sc_all.nd rfl (.inl rfl)) pgs_nil))))
    (pss_cons (ps_setLc (i := 3) (own := [("name", 6), ("many", 7), ("own", 8)]) (g := gTup K 3 (gCons (gName 6) (gCons (gName 7) (gCons (gName 8) gNil)))) (by rfl) sc_all.nd rfl rfl (sw_true rfl rfl rfl (by decide +kernel)) (pi_tup (pv 4)) (blkOk_by (N := nAll) (sc := defScope sAll) (by decide +kernel))
        (fun _ _ _ _ _ => by exact pg_tup rfl (pgs_cons (pg_name (i := 6) sc_all.nd rfl (.inl rfl)) (pgs_cons (pg_name (i := 7) sc_all.nd rfl (.inl rfl)) (pgs_cons (pg_name (i := 8) sc_all.nd rfl (.inl rfl)) pgs_nil)))) (fun _ _ _ _ _ => pts_nil)
        (fun _ _ _ _ _ => pe_tup (pa_cons (pv 6) (pa_cons (pv 7) (pa_cons (dn_call D hr (Nat.le_refl _) rfl pass0 (pa_cons (pv 8) (pa_cons (pv 1) (pa_cons (pv 2) pa_nil)))) pa_nil)))))
    (pss_one (ps_ret (pe_tup (pa_cons (pe_callTy call_tuple_of (by rfl) B0.tup (by decide +kernel) (pa_cons (pv 3) pa_nil)) (pa_cons (dn_call D hr (Nat.le_refl _) rfl pass0 (pa_cons (pv 5) (pa_cons (pv 1) (pa_cons (pv 2) pa_nil)))) pa_nil)))))), ?_⟩
  refine ⟨_, rfl, a, _, rfl, hs, rfl, _, _, rfl, _, _, rfl, rfl, ?_⟩
  refine ⟨_, rfl, aw, rfl, ⟨_, hsw⟩, fun D' hD => lc_tup (K := K) (a := aw) (xs := xw) (fun i H2 => ∃ (acc : List V) (pre : List PyData) (ws2 : Ws), Same H H2 ∧ H2 D' = some (.lst acc) ∧ acc.length = i ∧ TpAll K H2 pre acc ∧
      encWs 0 (p.larger F).ws = pre ++ encWs i (ws2.map fun w => (w.1, w.2.larger F)) ∧ TpAll K H (encWs i ws2) (xw.drop i) ∧ ∀ w ∈ ws2, Fit w.2 4 ∧ blen w.2 ≤ 50)
    ⟨[], [], p.ws, same_new hD _, upd_same, rfl, tpa_nil, rfl, hxw, fit.ws⟩ (fun i H2 _ ⟨_, _, _, s2, _⟩ => (Tups.same s2).sq hsw) ?_ ?_⟩
  · rintro i x H2 hi ⟨acc, pre, ws2, s2, hacc, hal, hpre, henc, hrest, fit2⟩
    have hil : i < xw.length := (List.getElem?_eq_some_iff.mp hi).1
    have l6 : xw.length ≤ 6 := by
      have := hxw.len
      have e : ∀ (i : Nat) (l : Ws), (encWs i l).length = l.length := by
        intro i l
        induction l generalizing i with
        | nil => rfl
        | cons y r ih => show (encWs (i + 1) r).length + 1 = _; rw [ih]; rfl
      rw [e] at this
      have := fit.few
      omega
    rw [drop_at hi] at hrest
    cases ws2 with
    | nil => have z := TpAll.n (show TpAll K H [] _ from hrest); cases z
    | cons w1 wr =>
      obtain ⟨x', r', e', hh, htl⟩ := TpAll.c (show TpAll K H (encW i w1 :: encWs (i + 1) wr) _ from hrest)
      obtain ⟨rfl, rfl⟩ := List.cons.inj e'
      obtain ⟨pw, ys, rfl, hpw, hy⟩ := Tp.t hh
      obtain ⟨y1, r1, rfl, h1, hy⟩ := hy.c
      obtain ⟨y2, r2, rfl, h2, hy⟩ := hy.c
      obtain ⟨y3, r3, rfl, h3, hy⟩ := hy.c
      obtain rfl := hy.n
      obtain rfl := h1.s
      obtain rfl := h2.i
      have t2 := Tups.same s2
      obtain ⟨f4, fl⟩ := fit2 w1 List.mem_cons_self
      refine ⟨pw, _, rfl, t2.sq hpw, rfl, _, _, rfl, _, _, rfl, _, _, rfl, rfl, rfl, ?_⟩
      refine ⟨_, rfl, _, rfl, _, rfl, _, rfl, _, rfl, y3, w1.2, 4, F, rfl, hF, Tp.mono t2 _ _ h3, f4, by decide, fl, fun v' H3 s3 hv => ?_⟩
      refine ⟨len3, fun z hz => ?_⟩
      have s4 := same_new hz (.tup [V.str (wname i), V.int w1.1, v'])
      have k4 := s4 _ _ (s3 _ _ hacc)
      have t5 : ∀ u, Tups (upd H3 z (.tup [V.str (wname i), V.int w1.1, v'])) (upd (upd H3 z (.tup [V.str (wname i), V.int w1.1, v'])) D' u) := fun u => tups_upd k4 ⟨fun xs z => (by cases z), fun q v z => (by cases z)⟩
      refine ⟨acc, k4, small1000 (by omega), acc ++ [.ref z], pre ++ [encW i (w1.1, w1.2.larger F)], wr, fun c o e => ?_, upd_same, by rw [List.length_append, hal]; rfl, ?_, ?_, htl, fun w hw => fit2 w (List.mem_cons_of_mem _ hw)⟩
      · rw [upd_ne (ne_of_none e hD)]
        exact s4 _ _ (s3 _ _ (s2 _ _ e))
      · exact TpAll.snoc (TpAll.mono ((Tups.same (s3.trans s4)).trans (t5 _)) _ _ hpre) (Tp.mono (t5 _) _ _ (tp_tup sqt_new (tpa_cons tp_str (tpa_cons tp_int (tpa_cons (Tp.mono (Tups.same s4) _ _ hv) tpa_nil)))))
      · rw [henc, List.append_assoc]
        rfl
  · rintro H2 ⟨acc, pre, ws2, s2, hacc, hal, hpre, henc, hrest, fit2⟩
    rw [List.drop_length] at hrest
    have e2 : ws2 = [] := by
      cases ws2 with
      | nil => rfl
      | cons y r => have z := hrest.len; cases z
    subst e2
    have t2 := Tups.same s2
    refine ⟨_, rfl, D', _, rfl, .inl ⟨SqL.of hacc, fun l hl => ?_⟩⟩
    have s3 : Same H2 (upd H2 l (.tup acc)) := same_new hl _
    refine ⟨_, rfl, _, rfl, _, rfl, x2, p.body, 4, F, rfl, hF, Tp.mono (t2.trans (Tups.same s3)) _ _ hb, fit.body, by decide, fit.len, fun v' H4 s4 hv => ?_⟩
    refine ⟨len2, fun z hz => ?_⟩
    have s5 := same_new hz (.tup [V.ref l, v'])
    refine q _ _ (s2.trans (s3.trans (s4.trans s5))) (tp_tup sqt_new (tpa_cons (tp_tup ((Tups.same (s4.trans s5)).sq sqt_new) ?_) (tpa_cons (Tp.mono (Tups.same s5) _ _ hv) tpa_nil)))
    rw [henc]
    show TpAll K _ (pre ++ []) acc
    rw [List.append_nil]
    exact TpAll.mono (Tups.same (s3.trans (s4.trans s5))) _ _ hpre
end
end TH
set_option Elab.async false
set_option linter.all false
set_option maxRecDepth 100000
set_option maxHeartbeats 4000000
namespace TH
open PySem PySem.Spec PyProof.Rows L2
abbrev sFar : Stmt := top 9
def AmLe (X : Int) : Am → Prop
  | .lit i => -X ≤ i ∧ i ≤ X
  | .src t _ m => (-X ≤ t ∧ t ≤ X) ∧ (-X ≤ m ∧ m ≤ X)
def GoLe (X : Int) : B → Prop
  | .nil => True
  | .go a r => AmLe X a ∧ GoLe X r
  | .turn _ r => GoLe X r
  | .ink _ r => GoLe X r
  | .pen _ r => GoLe X r
  | .mark _ r => GoLe X r
  | .back _ r => GoLe X r
  | .again _ b r => GoLe X b ∧ GoLe X r
  | .ite _ b e r => (GoLe X b ∧ GoLe X e) ∧ GoLe X r
  | .call _ _ r => GoLe X r
theorem GoLe.tail {X : Int} {b : B} (h : GoLe X b) : GoLe X b.tail := by
  cases b <;> first | exact h | exact h.2
theorem Fit.tail {b : B} {d : Nat} (h : Fit b d) : Fit b.tail d := by
  cases b <;> first | exact h | exact h.2
def spFar (K : PySem.W.Frag) (n : Nat) : Sp := fun vs H Q _ => ∃ (v : V) (b : B) (d : Nat) (X : Int), vs = [v] ∧ 0 ≤ X ∧ Tp K H (.tuple (encB b)) v ∧ Fit b d ∧ d < n ∧ GoLe X b ∧
  ∀ f H', Same H H' → 0 ≤ f → f ≤ X → Q (.int f) H'
theorem abs_le {i X : Int} (h1 : -X ≤ i) (h2 : i ≤ X) : (if i < 0 then -i else i) ≤ X := by
  split <;> omega
theorem abs_nn (i : Int) : 0 ≤ (if i < 0 then -i else i) := by
  split <;> omega
theorem max2_le {a b X : Int} (h1 : a ≤ X) (h2 : b ≤ X) : (if b > a then b else a) ≤ X := by
  split <;> omega
theorem max2_nn {a b : Int} (h1 : 0 ≤ a) : 0 ≤ (if b > a then b else a) := by
  split <;> omega
section
variable {P : Program} {w : World} {K : PySem.W.Frag} {mg : Str → Option Value} {base : Heap}
theorem sc_far : FnScope ["body", "far", "statement"] ["body"] (defScope sFar) := ⟨rfl, rfl, rfl, by decide +kernel, rfl, by decide +kernel, by decide +kernel⟩
theorem ok_far1 {n : Nat} {f : Addr} {fd : FuncData} (F : Fun K "farthest_go" "farthest_go" sFar f fd) (B0 : Bl mg)
    (D : Dn P w K mg base CX0 (n + 1) "farthest_go" f fd ["body"] (spFar K n)) : FnOk P w K mg base CX0 (n + 2) f fd ["body"] (spFar K (n + 1)) := by
  refine F.ok sc_far (fun vs H Q E h => ?_) (fun cdv A outer s H vs Q E hr h => ?_)
  · obtain ⟨v, b, d, X, rfl, _⟩ := h
    rfl
  obtain ⟨v, b, d, X, rfl, hX, hb, fit, hd, hgo, q⟩ := h
  obtain ⟨p, xs, rfl, hs, hx⟩ := Tp.t hb
  refine ⟨_, pss_cons (ps_set (i := 1) sc_far.nd rfl (.inl rfl) pe_int)
    (pss_cons (ps_for PassesOwn.never rfl (pi_tup (pv 0)) (pg_name (i := 2) sc_far.nd rfl (.inl rfl))
      (pss_one (ps_if (PW.pt (pw_and (pt_cmpR op_eq (pe_ix ix_tup (pv 2) pe_int (fun _ _ => rfl)) pe_str (nomark _))
          (pw_and1 (pt_val (pe_callB call_isi (by rfl) B0.isi (by decide +kernel) (pa_cons (pe_ix ix_tup (pv 2) pe_int (fun _ _ => rfl)) (pa_cons (pe_bltn (v := .ty "tuple") (by rfl) B0.tup boot_tuple rfl) pa_nil)))))))
        (pss_one (ps_set (i := 1) sc_far.nd rfl (.inl rfl) (pe_callB (call_max3I rfl) (by rfl) B0.max (by decide +kernel) (pa_cons (pv 1)
          (pa_cons (pe_callB call_abs (by rfl) B0.abs (by decide +kernel) (pa_cons (pe_ix ix_tup (pe_ix ix_tup (pv 2) pe_int (fun _ _ => rfl)) pe_int (fun _ _ => rfl)) pa_nil))
          (pa_cons (pe_callB call_abs (by rfl) B0.abs (by decide +kernel) (pa_cons (pe_ix ix_tup (pe_ix ix_tup (pv 2) pe_int (fun _ _ => rfl)) pe_int (fun _ _ => rfl)) pa_nil)) pa_nil))))))
        (pss_one (ps_if (pt_cmpR op_eq (pe_ix ix_tup (pv 2) pe_int (fun _ _ => rfl)) pe_str (nomark _))
          (pss_one (ps_set (i := 1) sc_far.nd rfl (.inl rfl) (pe_callB (call_max2 rfl) (by rfl) B0.max (by decide +kernel) (pa_cons (pv 1)
            (pa_cons (pe_callB call_abs (by rfl) B0.abs (by decide +kernel) (pa_cons (pe_ix ix_tup (pv 2) pe_int (fun _ _ => rfl)) pa_nil)) pa_nil)))))
          (pss_one (ps_if (pt_cmpR op_eq (pe_ix ix_tup (pv 2) pe_int (fun _ _ => rfl)) pe_str (nomark _))
            (pss_one (ps_set (i := 1) sc_far.nd rfl (.inl rfl) (pe_callB (call_max2 rfl) (by rfl) B0.max (by decide +kernel) (pa_cons (pv 1)
              (pa_cons (dn_call D hr (Nat.le_refl _) rfl pass0 (pa_cons (pe_ix ix_tup (pv 2) pe_int (fun _ _ => rfl)) pa_nil)) pa_nil)))))
            (pss_one (ps_if (pt_cmpR op_eq (pe_ix ix_tup (pv 2) pe_int (fun _ _ => rfl)) pe_str (nomark _))
              (pss_one (ps_set (i := 1) sc_far.nd rfl (.inl rfl) (pe_callB (call_max3I rfl) (by rfl) B0.max (by decide +kernel) (pa_cons (pv 1)
                (pa_cons (dn_call D hr (Nat.le_refl _) rfl pass0 (pa_cons (pe_ix ix_tup (pv 2) pe_int (fun _ _ => rfl)) pa_nil))
                (pa_cons (dn_call D hr (Nat.le_refl _) rfl pass0 (pa_cons (pe_ix ix_tup (pv 2) pe_int (fun _ _ => rfl)) pa_nil)) pa_nil))))))
              pss_nil)))))))))
    (pss_one (ps_ret (pv 1)))), ?_⟩
  refine ⟨_, rfl, p, rfl, ⟨_, hs⟩, for_tup (K := K) (a := p) (xs := xs) (fun i σ H2 => ∃ (st : Option V) (f : Int) (b2 : B), σ = [some (.ref p), some (.int f), st] ∧ Same H H2 ∧ 0 ≤ f ∧ f ≤ X ∧
      TpAll K H (encB b2) (xs.drop i) ∧ Fit b2 d ∧ GoLe X b2)
    ⟨none, 0, b, rfl, Same.refl _, Int.le_refl _, hX, hx, fit, hgo⟩ (fun i σ H2 _ ⟨_, _, _, _, s2, _⟩ => (Tups.same s2).sq hs) ?_ ?_⟩
  · rintro i x σ H2 hi ⟨st, f, b2, rfl, s2, f0, fX, hrest, fit2, go2⟩
    rw [drop_at hi] at hrest
    have nb : b2 ≠ .nil := by
      rintro rfl
      obtain z := hrest.n
      cases z
    rw [encB_cons nb] at hrest
    obtain ⟨x', r', e', hh, htl⟩ := hrest.c
    obtain ⟨rfl, rfl⟩ := List.cons.inj e'
    have t2 := Tups.same s2
    obtain ⟨ps, rr, rfl, hps⟩ := head_tp nb hh
    have hps2 := t2.sq hps
    by_cases c1 : ∃ a r, b2 = .go a r
    · obtain ⟨a, r, rfl⟩ := c1
      obtain ⟨_, ys, e1, hps, hy⟩ := Tp.t hh
      obtain rfl := V.ref.inj e1
      obtain ⟨y1, r1, rfl, h1, hy⟩ := hy.c
      obtain ⟨y2, r2, rfl, h2, hy⟩ := hy.c
      obtain rfl := hy.n
      obtain rfl := h1.s
      have hps2 := t2.sq hps
      refine ⟨_, rfl, ps, _, _, _, rfl, rfl, hps2, atI_nat (j := 0) rfl, rfl, _, rfl, ifs_eq ?_⟩
      cases a with
      | lit i =>
        obtain rfl := Tp.i h2
        obtain ⟨l1, l2⟩ : -X ≤ i ∧ i ≤ X := go2.1
        refine ⟨_, rfl, ps, _, _, _, rfl, rfl, hps2, atI_nat (j := 1) rfl, .int i, .ty "tuple", _, _, false, rfl, .ty _, .base (.int i), kit_ty (by decide +kernel), _, rfl, iteF ?_⟩
        refine ⟨_, rfl, ps, _, _, _, rfl, rfl, hps2, atI_nat (j := 0) rfl, rfl, _, rfl, ifs_eq ?_⟩
        refine ⟨_, rfl, _, rfl, ps, _, _, _, rfl, rfl, hps2, atI_nat (j := 1) rfl, _, rfl, _, _, rfl, ?_⟩
        exact ⟨_, _, r, rfl, s2, max2_nn f0, max2_le fX (abs_le l1 l2), htl, fit2, go2.2⟩
      | src t s m =>
        obtain ⟨pa, ys, rfl, hsa, hy⟩ := Tp.t h2
        obtain ⟨z1, r1, rfl, g1, hy⟩ := hy.c
        obtain ⟨z2, r2, rfl, g2, hy⟩ := hy.c
        obtain ⟨z3, r3, rfl, g3, hy⟩ := hy.c
        obtain rfl := hy.n
        obtain rfl := g1.i
        obtain rfl := g3.i
        have hsa2 := t2.sq hsa
        obtain ⟨⟨l1, l2⟩, l3, l4⟩ : (-X ≤ t ∧ t ≤ X) ∧ (-X ≤ m ∧ m ≤ X) := go2.1
        refine ⟨_, rfl, ps, _, _, _, rfl, rfl, hps2, atI_nat (j := 1) rfl, .ref pa, .ty "tuple", _, _, true, rfl, .ty _, tyx_tup hsa2, kit_ty (by decide +kernel), _, rfl, iteT ?_⟩
        refine ⟨_, rfl, _, rfl, ps, _, _, _, rfl, rfl, hps2, atI_nat (j := 1) rfl, pa, _, _, _, rfl, rfl, hsa2, atI_nat (j := 0) rfl, _, rfl, ?_⟩
        refine ⟨_, rfl, ps, _, _, _, rfl, rfl, hps2, atI_nat (j := 1) rfl, pa, _, _, _, rfl, rfl, hsa2, atI_nat (j := 2) rfl, _, rfl, _, _, _, rfl, ?_⟩
        have a1 := abs_le l1 l2
        have a2 := abs_le l3 l4
        exact ⟨_, _, r, rfl, s2, by omega, by omega, htl, fit2, go2.2⟩
    have n1 : ∀ a r, b2 ≠ .go a r := fun a r e => c1 ⟨a, r, e⟩
    refine ⟨_, rfl, ps, _, _, _, rfl, rfl, hps2, atI_nat (j := 0) rfl, rfl, _, rfl, ifs_ne (hname_go n1) (iteF ?_)⟩
    refine ⟨_, rfl, ps, _, _, _, rfl, rfl, hps2, atI_nat (j := 0) rfl, rfl, _, rfl, ifs_ne (hname_go n1) ?_⟩
    by_cases c2 : ∃ a c r, b2 = .again a c r
    · obtain ⟨a, c, r, rfl⟩ := c2
      obtain ⟨_, ys, e1, hps, hy⟩ := Tp.t hh
      obtain rfl := V.ref.inj e1
      obtain ⟨y1, r1, rfl, h1, hy⟩ := hy.c
      obtain ⟨y2, r2, rfl, h2, hy⟩ := hy.c
      obtain ⟨y3, r3, rfl, h3, hy⟩ := hy.c
      obtain rfl := hy.n
      obtain rfl := h1.s
      have hps2 := t2.sq hps
      obtain ⟨⟨d1, fc, lc⟩, fr⟩ := fit2
      refine ⟨_, rfl, ps, _, _, _, rfl, rfl, hps2, atI_nat (j := 0) rfl, rfl, _, rfl, ifs_eq ?_⟩
      refine ⟨_, rfl, _, rfl, ps, _, _, _, rfl, rfl, hps2, atI_nat (j := 2) rfl, y3, c, d - 1, X, rfl, hX, Tp.mono t2 _ _ h3, fc, by omega, go2.1, fun g H3 s3 g0 gX => ?_⟩
      exact ⟨_, _, rfl, _, _, r, rfl, s2.trans s3, max2_nn f0, max2_le fX gX, htl, fr, go2.2⟩
    have n2 : ∀ a c r, b2 ≠ .again a c r := fun a c r e => c2 ⟨a, c, r, e⟩
    refine ⟨_, rfl, ps, _, _, _, rfl, rfl, hps2, atI_nat (j := 0) rfl, rfl, _, rfl, ifs_ne (hname_again n2) ?_⟩
    by_cases c3 : ∃ a c e r, b2 = .ite a c e r
    · obtain ⟨a, c, e, r, rfl⟩ := c3
      obtain ⟨_, ys, e1, hps, hy⟩ := Tp.t hh
      obtain rfl := V.ref.inj e1
      obtain ⟨y1, r1, rfl, h1, hy⟩ := hy.c
      obtain ⟨y2, r2, rfl, h2, hy⟩ := hy.c
      obtain ⟨y3, r3, rfl, h3, hy⟩ := hy.c
      obtain ⟨y4, r4, rfl, h4, hy⟩ := hy.c
      obtain rfl := hy.n
      obtain rfl := h1.s
      have hps2 := t2.sq hps
      obtain ⟨⟨d1, fc, fe, lc, le⟩, fr⟩ := fit2
      refine ⟨_, rfl, ps, _, _, _, rfl, rfl, hps2, atI_nat (j := 0) rfl, rfl, _, rfl, ifs_eq ?_⟩
      refine ⟨_, rfl, _, rfl, ps, _, _, _, rfl, rfl, hps2, atI_nat (j := 2) rfl, y3, c, d - 1, X, rfl, hX, Tp.mono t2 _ _ h3, fc, by omega, go2.1.1, fun g H3 s3 g0 gX => ?_⟩
      have t3 := Tups.same s3
      refine ⟨_, rfl, ps, _, _, _, rfl, rfl, t3.sq hps2, atI_nat (j := 3) rfl, y4, e, d - 1, X, rfl, hX, Tp.mono (t2.trans t3) _ _ h4, fe, by omega, go2.1.2, fun g2 H4 s4 g20 g2X => ?_⟩
      exact ⟨_, _, _, rfl, _, _, r, rfl, s2.trans (s3.trans s4), by omega, by omega, htl, fr, go2.2⟩
    have n3 : ∀ a c e r, b2 ≠ .ite a c e r := fun a c e r z => c3 ⟨a, c, e, r, z⟩
    refine ⟨_, rfl, ps, _, _, _, rfl, rfl, hps2, atI_nat (j := 0) rfl, rfl, _, rfl, ifs_ne (hname_if n3) ?_⟩
    exact ⟨_, _, b2.tail, rfl, s2, f0, fX, htl, fit2.tail, go2.tail⟩
  · rintro σ H2 ⟨st, f, b2, rfl, s2, f0, fX, hrest, fit2, go2⟩
    exact ⟨_, rfl, q f H2 s2 f0 fX⟩
theorem ok_far {f : Addr} {fd : FuncData} (F : Fun K "farthest_go" "farthest_go" sFar f fd) (B0 : Bl mg) (g : mg "farthest_go" = some (.ref f)) (b : Binds K fd ["body"] []) :
    ∀ n : Nat, FnOk P w K mg base CX0 (n + 1) f fd ["body"] (spFar K n)
  | 0 => by
    have no : ∀ vs H Q E, ¬ spFar K 0 vs H Q E := fun vs H Q E h => by
      obtain ⟨_, _, _, _, _, _, _, _, z, _⟩ := h
      omega
    exact ⟨fun vs H Q E h => absurd h (no vs H Q E), fun A outer s H args us vs Q E _ _ _ _ h => absurd h (no vs H Q E)⟩
  | n + 1 => ok_far1 F B0 ⟨ok_far F B0 g b n, g, F.kp, b⟩
theorem ok_with {f fT : Addr} {fd fdT : FuncData} (F : Fun K "with_amounts" "with_amounts" sWith f fd) (B0 : Bl mg) (DT : Dn P w K mg base CX0 1 "times_over" fT fdT ["amount", "times"] (spTimes K)) (g : mg "with_amounts" = some (.ref f)) (b : Binds K fd ["body", "verb", "times"] []) :
    ∀ n : Nat, FnOk P w K mg base CX0 (n + 1) f fd ["body", "verb", "times"] (spWith K n)
  | 0 => by
    have no : ∀ vs H Q E, ¬ spWith K 0 vs H Q E := fun vs H Q E h => by
      obtain ⟨_, _, _, _, _, _, _, _, z, _⟩ := h
      omega
    exact ⟨fun vs H Q E h => absurd h (no vs H Q E), fun A outer s H args us vs Q E _ _ _ _ h => absurd h (no vs H Q E)⟩
  | n + 1 => ok_with1 F B0 DT ⟨ok_with F B0 DT g b n, g, F.kp, b⟩
end
end TH
set_option Elab.async false
set_option linter.all false
set_option maxRecDepth 100000
set_option maxHeartbeats 4000000
namespace TH
open PySem PySem.Spec PyProof.Rows L2
abbrev sLarger : Stmt := top 10
structure Prog.Goes (X : Int) (p : Prog) : Prop where
  ws : ∀ w ∈ p.ws, GoLe X w.2
  body : GoLe X p.body
def spLarger (K : PySem.W.Frag) : Sp := fun vs H Q _ => ∃ (v : V) (p : Prog) (F : Int), vs = [v, .int F] ∧ IntOk F ∧ Tp K H (encProg p) v ∧ p.Fits ∧ (p.larger F).Goes 1000000 ∧
  ∀ v' H', Same H H' → Tp K H' (encProg (p.larger F)) v' → Q v' H'
theorem larger_len (F : Int) (b : B) : blen (b.larger F) = blen b := by induction b <;> simp_all [B.larger, blen]
theorem larger_fit (F : Int) : ∀ (b : B) (d : Nat), Fit b d → Fit (b.larger F) d
  | .nil, _, _ => trivial
  | .go _ r, d, h => larger_fit F r d h
  | .turn _ r, d, h => larger_fit F r d h
  | .ink _ r, d, h => larger_fit F r d h
  | .pen _ r, d, h => larger_fit F r d h
  | .mark _ r, d, h => larger_fit F r d h
  | .back _ r, d, h => larger_fit F r d h
  | .again _ b r, d, h => ⟨⟨h.1.1, larger_fit F b _ h.1.2.1, by rw [larger_len]; exact h.1.2.2⟩, larger_fit F r d h.2⟩
  | .ite _ b e r, d, h => ⟨⟨h.1.1, larger_fit F b _ h.1.2.1, larger_fit F e _ h.1.2.2.1, by rw [larger_len]; exact h.1.2.2.2.1, by rw [larger_len]; exact h.1.2.2.2.2⟩, larger_fit F r d h.2⟩
  | .call _ _ r, d, h => larger_fit F r d h
theorem Prog.Fits.larger {p : Prog} (h : p.Fits) (F : Int) : (p.larger F).Fits := by
  refine ⟨?_, fun w hw => ?_, larger_fit F _ _ h.body, by show blen (p.body.larger F) ≤ 50; rw [larger_len]; exact h.len⟩
  · show (p.ws.map _).length ≤ 6
    rw [List.length_map]
    exact h.few
  · obtain ⟨u, hu, rfl⟩ := List.mem_map.mp (show w ∈ p.ws.map _ from hw)
    exact ⟨larger_fit F _ _ (h.ws u hu).1, by rw [larger_len]; exact (h.ws u hu).2⟩
abbrev nLarger : List Str := ["program", "factor", "found", "some", "words", "body", "name", "many", "own"]
theorem encWs_at {K : PySem.W.Frag} {H : Hp} : ∀ {ws : Ws} {j : Nat} {xs : List V}, TpAll K H (encWs j ws) xs → ∀ {i : Nat} {x : V}, xs[i]? = some x → ∃ w, ws[i]? = some w ∧ Tp K H (encW (j + i) w) x
  | [], j, xs, h, i, x, e => by rw [TpAll.n (show TpAll K H [] xs from h)] at e; cases i <;> cases e
  | w :: r, j, xs, h, i, x, e => by
    obtain ⟨y, ys, rfl, h1, t⟩ := TpAll.c (show TpAll K H (encW j w :: encWs (j + 1) r) xs from h)
    cases i with
    | zero => cases e; exact ⟨w, rfl, h1⟩
    | succ i =>
      obtain ⟨u, hu, hx⟩ := encWs_at t (i := i) e
      exact ⟨u, hu, by rw [show j + (i + 1) = j + 1 + i by omega]; exact hx⟩
theorem encWs_len : ∀ (i : Nat) (l : Ws), (encWs i l).length = l.length
  | _, [] => rfl
  | i, y :: r => by show (encWs (i + 1) r).length + 1 = _; rw [encWs_len]; rfl
section
variable {P : Program} {w : World} {K : PySem.W.Frag} {mg : Str → Option Value} {base : Heap}
theorem sc_larger : FnScope nLarger ["program", "factor"] (defScope sLarger) := ⟨rfl, rfl, rfl, by decide +kernel, rfl, by decide +kernel, by decide +kernel⟩
/-- a body of the larger program, as farthest_go asks -/
def OkBody (K : PySem.W.Frag) (H : Hp) (x : V) : Prop := ∃ b, Tp K H (.tuple (encB b)) x ∧ Fit b 4 ∧ GoLe 1000000 b
theorem OkBody.mono {H H' : Hp} (t : Tups H H') {x : V} (h : OkBody K H x) : OkBody K H' x := let ⟨b, h1, h2⟩ := h; ⟨b, Tp.mono t _ _ h1, h2⟩
theorem ok_larger {f fA fF : Addr} {fd fdA fdF : FuncData} {tk : Tok} (F : Fun K "larger" "larger" sLarger f fd) (B0 : Bl mg) (gF : mg "FARTHEST" = some (.int 1000000 tk))
    (DA : Dn P w K mg base CX0 7 "all_amounts" fA fdA ["program", "verb", "times"] (spAll K)) (DF : Dn P w K mg base CX0 6 "farthest_go" fF fdF ["body"] (spFar K 5)) : FnOk P w K mg base CX0 8 f fd ["program", "factor"] (spLarger K) := by
  refine F.ok sc_larger (fun vs H Q E h => ?_) (fun cdv A outer s H vs Q E hr h => ?_)
  · obtain ⟨v, p, F, rfl, _⟩ := h
    rfl
  obtain ⟨v, p, F, rfl, hF, hp, fit, goes, q⟩ := h
  refine ⟨_, (pss_cons (ps_asg (pv 0) (pg_tup rfl (pgs_cons (pg_name (i := 4) sc_larger.nd rfl (.inl rfl)) (pgs_cons (pg_name (i := 5) sc_larger.nd rfl (.inl rfl)) pgs_nil))))
    (pss_cons (ps_set (i := 2) sc_larger.nd rfl (.inl rfl) (dn_call DA hr (by omega) rfl pass0 (pa_cons (pv 0) (pa_cons pe_str (pa_cons (pv 1) pa_nil)))))
    (pss_cons (ps_for PassesOwn.never rfl (pi_list (pe_op op_cat (pe_lc (own := [("name", 6), ("many", 7), ("own", 8)]) (g := (gTup K 3 (gCons (gName 6) (gCons (gName 7) (gCons (gName 8) gNil))))) (by rfl) sc_larger.nd (pi_tup (pe_ix ix_tup (pv 2) pe_int (fun _ _ => rfl))) (blkOk_by (N := nLarger) (sc := defScope sLarger) (by decide +kernel)) (fun _ _ _ _ _ => by exact (pg_tup rfl (pgs_cons (pg_name (i := 6) sc_larger.nd rfl (.inl rfl)) (pgs_cons (pg_name (i := 7) sc_larger.nd rfl (.inl rfl)) (pgs_cons (pg_name (i := 8) sc_larger.nd rfl (.inl rfl)) pgs_nil))))) (fun _ _ _ _ _ => pts_nil) (fun _ _ _ _ _ => by exact (pv 8))) (pe_lst (pa_cons (pe_ix ix_tup (pv 2) pe_int (fun _ _ => rfl)) pa_nil)))) (pg_name (i := 3) sc_larger.nd rfl (.inl rfl)) (pss_one (ps_if (pt_cmpR op_gt (dn_call DF hr (by omega) rfl pass0 (pa_cons (pv 3) pa_nil)) (pe_glob (v := .int 1000000) rfl gF ⟨_, rfl⟩) (nomark _)) (pss_one ps_never) pss_nil)))
    (pss_one (ps_ret (pv 2)))))), ?_⟩
  have hp0 := hp
  obtain ⟨a, xs, rfl, hs, hx⟩ := Tp.t hp
  obtain ⟨x1, r1, rfl, hw, hx⟩ := hx.c
  obtain ⟨x2, r2, rfl, hb, hx⟩ := hx.c
  obtain rfl := hx.n
  refine ⟨_, rfl, a, _, rfl, hs, rfl, _, _, rfl, _, _, rfl, rfl, ?_⟩
  refine ⟨_, rfl, _, rfl, .ref a, p, F, rfl, hF, hp0, fit, fun v1 H1 s1 hv1 => ?_⟩
  have hv0 := hv1
  obtain ⟨a1, xs1, rfl, hs1, hx1⟩ := Tp.t hv1
  obtain ⟨y1, r1, rfl, hw1, hx1⟩ := hx1.c
  obtain ⟨y2, r2, rfl, hb1, hx1⟩ := hx1.c
  obtain rfl := hx1.n
  obtain ⟨aw, xw, rfl, hsw, hxw⟩ := Tp.t hw1
  have fl := fit.larger F
  have l6 : xw.length ≤ 6 := by
    have e := hxw.len
    rw [encWs_len] at e
    have := fl.few
    omega
  refine ⟨_, rfl, a1, _, _, _, rfl, rfl, hs1, atI_nat (j := 0) rfl, aw, rfl, ⟨_, hsw⟩, fun D' hD => lc_tup (K := K) (a := aw) (xs := xw) (fun i H2 => ∃ (acc : List V), Same H1 H2 ∧ H2 D' = some (.lst acc) ∧ acc.length = i ∧ ∀ x ∈ acc, OkBody K H1 x)
    ⟨[], same_new hD _, upd_same, rfl, fun x hx => nomatch hx⟩ (fun i H2 _ ⟨_, s2, _⟩ => (Tups.same s2).sq hsw) ?_ ?_⟩
  · rintro i x H2 hi ⟨acc, s2, hacc, hal, hok⟩
    have hil : i < xw.length := (List.getElem?_eq_some_iff.mp hi).1
    obtain ⟨w1, hw1, hh⟩ := encWs_at hxw hi
    obtain ⟨pw, ys, rfl, hpw, hy⟩ := Tp.t hh
    obtain ⟨z1, r1, rfl, g1, hy⟩ := hy.c
    obtain ⟨z2, r2, rfl, g2, hy⟩ := hy.c
    obtain ⟨z3, r3, rfl, g3, hy⟩ := hy.c
    obtain rfl := hy.n
    have wm : w1 ∈ (p.larger F).ws := List.mem_of_getElem? hw1
    refine ⟨pw, _, rfl, (Tups.same s2).sq hpw, rfl, _, _, rfl, _, _, rfl, _, _, rfl, rfl, rfl, ?_⟩
    refine ⟨_, rfl, acc, hacc, small1000 (by omega), acc ++ [z3], fun c o e => ?_, upd_same, by rw [List.length_append, hal]; rfl, fun y hy => ?_⟩
    · rw [upd_ne (ne_of_none e hD)]
      exact s2 _ _ e
    · rcases List.mem_append.mp hy with hy | hy
      · exact hok y hy
      · rw [List.mem_singleton.mp hy]
        exact ⟨w1.2, g3, (fl.ws _ wm).1, goes.ws _ wm⟩
  · rintro H2 ⟨acc, s2, hacc, hal, hok⟩
    refine ⟨_, rfl, a1, _, _, _, rfl, rfl, (Tups.same s2).sq hs1, atI_nat (j := 1) rfl, len1, fun l1 hl1 => ?_⟩
    have s3 := same_new hl1 (.lst [y2])
    refine ⟨D', l1, acc, [y2], rfl, rfl, s3 _ _ hacc, upd_same, ?_, fun l2 hl2 => ?_⟩
    · rw [hal]
      exact Nat.le_of_lt (small1000 (by show xw.length + 1 ≤ 1000; omega))
    have s4 := same_new hl2 (.lst (acc ++ [y2]))
    have hok2 : ∀ x ∈ acc ++ [y2], OkBody K H1 x := fun x hx => by
      rcases List.mem_append.mp hx with hx | hx
      · exact hok x hx
      · rw [List.mem_singleton.mp hx]
        exact ⟨_, hb1, fl.body, goes.body⟩
    have s14 : Same H1 (upd (upd H2 l1 (.lst [y2])) l2 (.lst (acc ++ [y2]))) := s2.trans (s3.trans s4)
    refine ⟨l2, rfl, ⟨_, SqL.of upd_same⟩, for_list (K := K) (a := l2) (xs := acc ++ [y2]) (fun i σ H5 => ∃ (so : Option V), σ = [some (.ref a), some (.int F), some (.ref a1), so, some x1, some x2, none, none, none] ∧ Same (upd (upd H2 l1 (.lst [y2])) l2 (.lst (acc ++ [y2]))) H5)
      ⟨none, rfl, Same.refl _⟩ (fun i σ H5 _ ⟨_, _, s5⟩ => SqL.of (s5 _ _ upd_same)) ?_ ?_⟩
    · rintro i x σ H5 hi ⟨so, rfl, s5⟩
      have t5 := Tups.same (s14.trans s5)
      obtain ⟨b, hbx, fb, gb⟩ := hok2 x (List.mem_of_getElem? hi)
      refine ⟨_, rfl, x, b, 4, 1000000, rfl, by decide, Tp.mono t5 _ _ hbx, fb, by decide, gb, fun g H6 s6 g0 gX => ?_⟩
      refine ⟨_, _, rfl, rfl, _, rfl, ifd (fun c => ?_) fun c => ?_⟩
      · exact absurd gX (by omega)
      · exact ⟨_, rfl, s5.trans s6⟩
    · rintro σ H5 ⟨so, rfl, s5⟩
      refine ⟨_, rfl, q _ _ (s1.trans (s14.trans s5)) (Tp.mono (Tups.same (s14.trans s5)) _ _ hv0)⟩
end
end TH
set_option Elab.async false
set_option linter.all false
set_option maxRecDepth 100000
set_option maxHeartbeats 4000000
namespace TH
open PySem PySem.Spec PyProof.Rows L2
abbrev sPlus : Stmt := top 14
abbrev sWay : Stmt := top 15
abbrev sMoved : Stmt := top 16
abbrev encN (a b : Int) : PyData := .tuple [.int a, .int b]
def spPlus (K : PySem.W.Frag) : Sp := fun vs H Q _ => ∃ (u v : V) (a b c d : Int), vs = [u, v] ∧ Tp K H (encN a b) u ∧ Tp K H (encN c d) v ∧ ∀ z H', Same H H' → Tp K H' (encN (a + c) (b + d)) z → Q z H'
def wayE (h v : Int) : PyData := if h % 2 = 0 then encN (v * east h) 0 else encN 0 (v * east h)
def wayN (h v : Int) : PyData := if h % 2 = 0 then encN (v * east ((h + 6) % 8)) 0 else encN 0 (v * east ((h + 6) % 8))
def spWay (K : PySem.W.Frag) : Sp := fun vs H Q _ => ∃ (h v : Int), vs = [.int h, .int v] ∧ 0 ≤ h ∧ h < 8 ∧ ∀ z H', Same H H' → Tp K H' (.tuple [wayE h v, wayN h v]) z → Q z H'
def spMoved (K : PySem.W.Frag) : Sp := fun vs H Q _ => ∃ (u : V) (p : Pt) (h v : Int), vs = [u, .int h, .int v] ∧ 0 ≤ h ∧ h < 8 ∧ Tp K H (encP p) u ∧ ∀ z H', Same H H' → Tp K H' (encP (moved p h v)) z → Q z H'
theorem tp_pair {K : PySem.W.Frag} {H : Hp} {a b : Int} {v : V} (h : Tp K H (encN a b) v) : ∃ p, v = .ref p ∧ SqT K H p [.int a, .int b] := by
  obtain ⟨p, xs, rfl, hs, hx⟩ := Tp.t h
  obtain ⟨x1, r1, rfl, h1, hx⟩ := hx.c
  obtain ⟨x2, r2, rfl, h2, hx⟩ := hx.c
  obtain rfl := hx.n
  rw [h1.i, h2.i] at hs
  exact ⟨p, rfl, hs⟩
theorem tp_two {K : PySem.W.Frag} {H : Hp} {d e : PyData} {v : V} (h : Tp K H (.tuple [d, e]) v) : ∃ p x y, v = .ref p ∧ SqT K H p [x, y] ∧ Tp K H d x ∧ Tp K H e y := by
  obtain ⟨p, xs, rfl, hs, hx⟩ := Tp.t h
  obtain ⟨x1, r1, rfl, h1, hx⟩ := hx.c
  obtain ⟨x2, r2, rfl, h2, hx⟩ := hx.c
  obtain rfl := hx.n
  exact ⟨p, _, _, rfl, hs, h1, h2⟩
theorem tp_three {K : PySem.W.Frag} {H : Hp} {d e f : PyData} {v : V} (h : Tp K H (.tuple [d, e, f]) v) : ∃ p x y z, v = .ref p ∧ SqT K H p [x, y, z] ∧ Tp K H d x ∧ Tp K H e y ∧ Tp K H f z := by
  obtain ⟨p, xs, rfl, hs, hx⟩ := Tp.t h
  obtain ⟨x1, r1, rfl, h1, hx⟩ := hx.c
  obtain ⟨x2, r2, rfl, h2, hx⟩ := hx.c
  obtain ⟨x3, r3, rfl, h3, hx⟩ := hx.c
  obtain rfl := hx.n
  exact ⟨p, _, _, _, rfl, hs, h1, h2, h3⟩
theorem east_bd (h : Int) : -(2 ^ 64) < east h ∧ east h < 2 ^ 64 := by
  have key : ∀ x ∈ eastL, -(2 ^ 64) < x ∧ x < 2 ^ 64 := by decide
  unfold east
  rw [List.getD_eq_getElem?_getD]
  cases e : eastL[h.toNat]? with
  | none => exact ⟨by decide, by decide⟩
  | some x => exact key x (List.mem_of_getElem? e)
theorem east_at {h : Int} (h0 : 0 ≤ h) (h8 : h < 8) : atI (eastL.map V.int) h = some (.int (east h)) := by
  have hl : h.toNat < eastL.length := by show h.toNat < 8; omega
  have e : eastL[h.toNat]? = some (east h) := by
    unfold east
    rw [List.getD_eq_getElem?_getD, List.getElem?_eq_getElem hl]
    rfl
  exact at_of (show h = ((h.toNat : Nat) : Int) by omega) (by rw [List.getElem?_map, e]; rfl)
section
variable {P : Program} {w : World} {K : PySem.W.Frag} {mg : Str → Option Value} {base : Heap}
theorem sc_plus : FnScope ["one", "other"] ["one", "other"] (defScope sPlus) := ⟨rfl, rfl, rfl, by decide +kernel, rfl, by decide +kernel, by decide +kernel⟩
theorem ok_plus {f : Addr} {fd : FuncData} (F : Fun K "plus" "plus" sPlus f fd) : FnOk P w K mg base CX0 1 f fd ["one", "other"] (spPlus K) := by
  refine F.ok sc_plus (fun vs H Q E h => ?_) (fun cdv A outer s H vs Q E hr h => ?_)
  · obtain ⟨u, v, a, b, c, d, rfl, _⟩ := h
    rfl
  obtain ⟨u, v, a, b, c, d, rfl, hu, hv, q⟩ := h
  refine ⟨_, (pss_one (ps_ret (pe_tup (pa_cons (pe_op op_add (pe_ix ix_tup (pv 0) pe_int (fun _ _ => rfl)) (pe_ix ix_tup (pv 1) pe_int (fun _ _ => rfl))) (pa_cons (pe_op op_add (pe_ix ix_tup (pv 0) pe_int (fun _ _ => rfl)) (pe_ix ix_tup (pv 1) pe_int (fun _ _ => rfl))) pa_nil))))), ?_⟩
  obtain ⟨p1, rfl, s1⟩ := tp_pair hu
  obtain ⟨p2, rfl, s2⟩ := tp_pair hv
  refine ⟨_, rfl, p1, _, _, _, rfl, rfl, s1, atI_nat (j := 0) rfl, _, rfl, p2, _, _, _, rfl, rfl, s2, atI_nat (j := 0) rfl, _, _, rfl, rfl, ?_⟩
  refine ⟨_, rfl, p1, _, _, _, rfl, rfl, s1, atI_nat (j := 1) rfl, _, rfl, p2, _, _, _, rfl, rfl, s2, atI_nat (j := 1) rfl, _, _, rfl, rfl, len2, fun z hz => ?_⟩
  exact q _ _ (same_new hz _) (tp_tup sqt_new (tpa_cons tp_int (tpa_cons tp_int tpa_nil)))
theorem sc_way : FnScope ["heading", "steps", "east", "north"] ["heading", "steps"] (defScope sWay) := ⟨rfl, rfl, rfl, by decide +kernel, rfl, by decide +kernel, by decide +kernel⟩
theorem ok_way {f aE : Addr} {fd : FuncData} (F : Fun K "way_of" "way_of" sWay f fd) (gE : mg "EAST" = some (.ref aE)) (hE : ∀ H, SqT K H aE (eastL.map V.int)) : FnOk P w K mg base CX0 1 f fd ["heading", "steps"] (spWay K) := by
  refine F.ok sc_way (fun vs H Q E h => ?_) (fun cdv A outer s H vs Q E hr h => ?_)
  · obtain ⟨a, b, rfl, _⟩ := h
    rfl
  obtain ⟨h, v, rfl, h0, h8, q⟩ := h
  refine ⟨_, (pss_cons (ps_set (i := 2) sc_way.nd rfl (.inl rfl) (pe_op op_mul (pv 1) (pe_ix ix_tup (pe_glob (v := .ref aE) rfl gE rfl) (pv 0) (fun _ _ => rfl))))
    (pss_cons (ps_set (i := 3) sc_way.nd rfl (.inl rfl) (pe_op op_mul (pv 1) (pe_ix ix_tup (pe_glob (v := .ref aE) rfl gE rfl) (pe_op op_mod (pe_op op_add (pv 0) pe_int) pe_int) (fun _ _ => rfl))))
    (pss_cons (ps_if (pt_cmpR op_eq (pe_op op_mod (pv 0) pe_int) pe_int (nomark _)) (pss_one (ps_ret (pe_tup (pa_cons (pe_tup (pa_cons (pv 2) (pa_cons pe_int pa_nil))) (pa_cons (pe_tup (pa_cons (pv 3) (pa_cons pe_int pa_nil))) pa_nil))))) pss_nil)
    (pss_one (ps_ret (pe_tup (pa_cons (pe_tup (pa_cons pe_int (pa_cons (pv 2) pa_nil))) (pa_cons (pe_tup (pa_cons pe_int (pa_cons (pv 3) pa_nil))) pa_nil)))))))), ?_⟩
  refine ⟨_, rfl, _, rfl, aE, _, _, _, rfl, rfl, hE _, east_at h0 h8, _, _, rfl, rfl, .inr (east_bd h), ?_⟩
  refine ⟨_, rfl, _, rfl, _, _, rfl, rfl, _, _, rfl, rfl, (by show (0 : Int) < 8; decide), aE, _, _, _, rfl, rfl, hE _, east_at (h := (h + 6) % 8) (by omega) (by omega), _, _, rfl, rfl, .inr (east_bd _), ?_⟩
  refine ⟨_, rfl, _, _, rfl, rfl, (by show (0 : Int) < 2; decide), rfl, _, rfl, ifi_of (fun c => ?_) (fun c => ?_)⟩
  · refine ⟨_, rfl, len2, fun z hz => ?_⟩
    refine ⟨_, rfl, len2, fun z2 hz2 => ?_⟩
    have s1 := same_new hz2 (.tup [V.int (v * east ((h + 6) % 8)), V.int 0])
    refine ⟨len2, fun z3 hz3 => ?_⟩
    have s2 := same_new hz3 (.tup [V.ref z, V.ref z2])
    refine q _ _ ((same_new hz _).trans (s1.trans s2)) (tp_tup sqt_new (tpa_cons ?_ (tpa_cons ?_ tpa_nil)))
    · unfold wayE
      rw [if_pos c]
      exact tp_tup ((Tups.same (s1.trans s2)).sq sqt_new) (tpa_cons tp_int (tpa_cons tp_int tpa_nil))
    · unfold wayN
      rw [if_pos c]
      exact tp_tup ((Tups.same s2).sq sqt_new) (tpa_cons tp_int (tpa_cons tp_int tpa_nil))
  · refine ⟨_, rfl, len2, fun z hz => ?_⟩
    refine ⟨_, rfl, len2, fun z2 hz2 => ?_⟩
    have s1 := same_new hz2 (.tup [V.int 0, V.int (v * east ((h + 6) % 8))])
    refine ⟨len2, fun z3 hz3 => ?_⟩
    have s2 := same_new hz3 (.tup [V.ref z, V.ref z2])
    refine q _ _ ((same_new hz _).trans (s1.trans s2)) (tp_tup sqt_new (tpa_cons ?_ (tpa_cons ?_ tpa_nil)))
    · unfold wayE
      rw [if_neg c]
      exact tp_tup ((Tups.same (s1.trans s2)).sq sqt_new) (tpa_cons tp_int (tpa_cons tp_int tpa_nil))
    · unfold wayN
      rw [if_neg c]
      exact tp_tup ((Tups.same s2).sq sqt_new) (tpa_cons tp_int (tpa_cons tp_int tpa_nil))
theorem sc_moved : FnScope ["place", "heading", "steps", "east", "north"] ["place", "heading", "steps"] (defScope sMoved) := ⟨rfl, rfl, rfl, by decide +kernel, rfl, by decide +kernel, by decide +kernel⟩
theorem ok_moved {f fP fW : Addr} {fd fdP fdW : FuncData} (F : Fun K "moved" "moved" sMoved f fd) (DP : Dn P w K mg base CX0 1 "plus" fP fdP ["one", "other"] (spPlus K)) (DW : Dn P w K mg base CX0 1 "way_of" fW fdW ["heading", "steps"] (spWay K)) :
    FnOk P w K mg base CX0 2 f fd ["place", "heading", "steps"] (spMoved K) := by
  refine F.ok sc_moved (fun vs H Q E h => ?_) (fun cdv A outer s H vs Q E hr h => ?_)
  · obtain ⟨u, p, h, v, rfl, _⟩ := h
    rfl
  obtain ⟨u, p, h, v, rfl, h0, h8, hu, q⟩ := h
  refine ⟨_, (pss_cons (ps_asg (dn_call DW hr (by omega) rfl pass0 (pa_cons (pv 1) (pa_cons (pv 2) pa_nil))) (pg_tup rfl (pgs_cons (pg_name (i := 3) sc_moved.nd rfl (.inl rfl)) (pgs_cons (pg_name (i := 4) sc_moved.nd rfl (.inl rfl)) pgs_nil))))
    (pss_one (ps_ret (pe_tup (pa_cons (dn_call DP hr (by omega) rfl pass0 (pa_cons (pe_ix ix_tup (pv 0) pe_int (fun _ _ => rfl)) (pa_cons (pv 3) pa_nil))) (pa_cons (dn_call DP hr (by omega) rfl pass0 (pa_cons (pe_ix ix_tup (pv 0) pe_int (fun _ _ => rfl)) (pa_cons (pv 4) pa_nil))) pa_nil)))))), ?_⟩
  obtain ⟨pa, px, py, rfl, hs, hpx, hpy⟩ := tp_two hu
  refine ⟨_, rfl, _, rfl, h, v, rfl, h0, h8, fun z H1 s1 hz => ?_⟩
  obtain ⟨pz, e, n, rfl, hsz, hpe, hpn⟩ := tp_two hz
  have t1 := Tups.same s1
  refine ⟨pz, _, rfl, hsz, rfl, _, _, rfl, _, _, rfl, rfl, ?_⟩
  have fin : ∀ (a b c d a2 b2 c2 d2 : Int), p = ⟨a, b, c, d⟩ → wayE h v = encN a2 b2 → wayN h v = encN c2 d2 → moved p h v = ⟨a + a2, b + b2, c + c2, d + d2⟩ → (∀ z H', Same H H' → Tp K H' (encP ⟨a + a2, b + b2, c + c2, d + d2⟩) z → Q z H') := by
    intro a b c d a2 b2 c2 d2 _ _ _ em z H' sz hz
    exact q z H' sz (by rw [em]; exact hz)
  obtain ⟨a2, b2, c2, d2, e1, e2, em⟩ : ∃ a2 b2 c2 d2, wayE h v = encN a2 b2 ∧ wayN h v = encN c2 d2 ∧ moved p h v = ⟨p.ax + a2, p.bx + b2, p.ay + c2, p.cy + d2⟩ := by
    unfold wayE wayN moved
    by_cases c : h % 2 = 0
    · rw [if_pos c, if_pos c, if_pos c]
      exact ⟨_, _, _, _, rfl, rfl, rfl⟩
    · rw [if_neg c, if_neg c, if_neg c]
      exact ⟨_, _, _, _, rfl, rfl, rfl⟩
  have q2 := fin p.ax p.bx p.ay p.cy a2 b2 c2 d2 rfl e1 e2 em
  rw [e1] at hpe
  rw [e2] at hpn
  refine ⟨_, rfl, pa, _, _, _, rfl, rfl, t1.sq hs, atI_nat (j := 0) rfl, _, rfl, px, e, p.ax, p.bx, a2, b2, rfl, Tp.mono t1 _ _ hpx, hpe, fun z1 H2 s2 hz1 => ?_⟩
  have t2 := Tups.same s2
  refine ⟨_, rfl, pa, _, _, _, rfl, rfl, (t1.trans t2).sq hs, atI_nat (j := 1) rfl, _, rfl, py, n, p.ay, p.cy, c2, d2, rfl, Tp.mono (t1.trans t2) _ _ hpy, Tp.mono t2 _ _ hpn, fun z2 H3 s3 hz2 => ?_⟩
  refine ⟨len2, fun z3 hz3 => ?_⟩
  have s4 := same_new hz3 (.tup [z1, z2])
  exact q2 _ _ (s1.trans (s2.trans (s3.trans s4))) (tp_tup sqt_new (tpa_cons (Tp.mono (Tups.same (s3.trans s4)) _ _ hz1) (tpa_cons (Tp.mono (Tups.same s4) _ _ hz2) tpa_nil)))
end
end TH
set_option Elab.async false
set_option linter.all false
set_option maxRecDepth 100000
set_option maxHeartbeats 4000000
namespace TH
open PySem PySem.Spec PyProof.Rows L2
/-! ### an instance's attributes -/
theorem zip_lookup : ∀ {N : List Str} {vs : List V} {i : Nat} {x : Str} {v : V}, N.Nodup → N[i]? = some x → vs[i]? = some v → (N.zip vs).lookup x = some v
  | [], _, _, _, _, _, h, _ => by simp at h
  | _ :: _, [], _, _, _, _, _, h => by simp at h
  | n :: N, u :: vs, 0, x, v, _, h1, h2 => by
    have e1 : n = x := Option.some.inj h1
    have e2 : u = v := Option.some.inj h2
    subst e1 e2
    simp [List.lookup]
  | n :: N, u :: vs, i + 1, x, v, nd, h1, h2 => by
    have h1 : N[i]? = some x := h1
    have ne : ¬ x = n := fun e => (List.nodup_cons.mp nd).1 (e ▸ List.mem_of_getElem? h1)
    have nb : (x == n) = false := by simpa using ne
    show List.lookup x ((n, u) :: N.zip vs) = some v
    rw [List.lookup_cons, nb]
    exact zip_lookup (List.nodup_cons.mp nd).2 h1 h2
theorem zip_none : ∀ {N : List Str} {vs : List V} {x : Str}, x ∉ N → (N.zip vs).lookup x = none
  | [], _, _, _ => rfl
  | _ :: _, [], _, _ => rfl
  | n :: N, u :: vs, x, h => by
    have nb : (x == n) = false := by
      have : ¬ x = n := fun e => h (e ▸ List.mem_cons_self)
      simpa using this
    show List.lookup x ((n, u) :: N.zip vs) = none
    rw [List.lookup_cons, nb]
    exact zip_none fun m => h (List.mem_cons_of_mem _ m)
theorem zip_put : ∀ {N : List Str} {vs : List V} {i : Nat} {x : Str} {v : V}, N.Nodup → N[i]? = some x → vs.length = N.length → putF x v (N.zip vs) = N.zip (vs.set i v)
  | [], _, _, _, _, _, h, _ => by simp at h
  | _ :: _, [], _, _, _, _, _, h => by simp at h
  | n :: N, u :: vs, 0, x, v, _, h1, _ => by
    have e1 : n = x := Option.some.inj h1
    subst e1
    show (if n = n then (n, v) :: N.zip vs else (n, u) :: putF n v (N.zip vs)) = (n, v) :: N.zip vs
    rw [if_pos rfl]
  | n :: N, u :: vs, i + 1, x, v, nd, h1, hl => by
    have h1 : N[i]? = some x := h1
    have ne : ¬ n = x := fun e => (List.nodup_cons.mp nd).1 (e.symm ▸ List.mem_of_getElem? h1)
    show (if n = x then (n, v) :: N.zip vs else (n, u) :: putF x v (N.zip vs)) = (n, u) :: N.zip (vs.set i v)
    rw [if_neg ne, zip_put (List.nodup_cons.mp nd).2 h1 (by simpa using hl)]
theorem zip_new : ∀ {N : List Str} {vs : List V} {x : Str} {v : V}, x ∉ N → vs.length = N.length → putF x v (N.zip vs) = (N ++ [x]).zip (vs ++ [v])
  | [], [], x, v, _, _ => rfl
  | [], _ :: _, _, _, _, h => by simp at h
  | _ :: _, [], _, _, _, h => by simp at h
  | n :: N, u :: vs, x, v, h, hl => by
    have ne : ¬ n = x := fun e => h (e ▸ List.mem_cons_self)
    show (if n = x then (n, v) :: N.zip vs else (n, u) :: putF x v (N.zip vs)) = (n, u) :: (N ++ [x]).zip (vs ++ [v])
    rw [if_neg ne, zip_new (fun m => h (List.mem_cons_of_mem _ m)) (by simpa using hl)]
/-! ### a method -/
structure Dm (P : Program) (w : World) (K : PySem.W.Frag) (mg : Str → Option Value) (base : Heap) (CX : CXT) (k : Nat) (C : Addr) (m : Str) (f : Addr) (fd : FuncData) (ps : List Str) (sp : Sp) : Prop where
  ok : FnOk P w K mg base CX k f fd ps sp
  cl : Cls K C
  m : Meth K C m f
  b : Binds K fd ps []
theorem dm_call {X : Cx} {CX : CXT} {k j : Nat} {C : Addr} {m : Str} {f : Addr} {fd : FuncData} {ps : List Str} {sp : Sp} {E : XK} {pos apos : Pos} {o e : Expr} {es : List Expr} {ta : TE} {t : TA} {pl : Sem Bool}
    (he : PE X o ta) (D : Dm X.prog X.w X.K X.mg X.base CX k C m f fd ps sp) (hr : Room j X.A) (hk : k ≤ j) (hx : Passes CX X E) (ha : PA X (e :: es) t)
    (hst : starEach (e :: es) X.env = (false, eval e X.env) :: starEach es X.env := by rfl) (hpl : (backTo pos (starEach es X.env)).any (·.1) = false := by rfl)
    (ht : eval (.Call (.Attribute o m apos) (e :: es) [] pos) X.env = (do
      let ov ← eval o X.env
      standAt apos.atName
      let (f, first) ← holding [ov] (getMethod ov m pl)
      callWith pos f first (backTo pos (starEach (e :: es) X.env)) (backToKw pos (keywordEach [] X.env))) := by rfl) :
    PE X (.Call (.Attribute o m apos) (e :: es) [] pos) (tMeth C m sp [] E ta t) := pe_meth he D.cl D.m D.ok (hr.mono hk) D.b .nil hx ha hst hpl ht
theorem dm_call0 {X : Cx} {CX : CXT} {k j : Nat} {C : Addr} {m : Str} {f : Addr} {fd : FuncData} {ps : List Str} {sp : Sp} {E : XK} {pos apos : Pos} {o : Expr} {ta : TE} {pl : Sem Bool}
    (he : PE X o ta) (D : Dm X.prog X.w X.K X.mg X.base CX k C m f fd ps sp) (hr : Room j X.A) (hk : k ≤ j) (hx : Passes CX X E)
    (ht : eval (.Call (.Attribute o m apos) [] [] pos) X.env = (do
      let ov ← eval o X.env
      standAt apos.atName
      let (f, first) ← holding [ov] (getMethod ov m pl)
      callWith pos f first (backTo pos (starEach [] X.env)) (backToKw pos (keywordEach [] X.env))) := by rfl) :
    PE X (.Call (.Attribute o m apos) [] [] pos) (tMeth C m sp [] E ta tNil) := pe_meth0 he D.cl D.m D.ok (hr.mono hk) D.b .nil hx ht
/-! ### the hand -/
abbrev FN : List Str := ["spot", "heading", "is_down", "ink", "marks", "strokes", "corners", "turns", "rest", "plain"]
theorem fn_nd : FN.Nodup := by decide +kernel
/-- where the hand's things stand -/
structure Adr where
  x : Addr
  ms : Addr
  st : Addr
  co : Addr
  pl : Addr
def Adr.S (A : Adr) (b : Addr) : Prop := b = A.x ∨ b = A.ms ∨ b = A.st ∨ b = A.co ∨ b = A.pl
/-- what moves when the hand moves -/
structure Mv (A : Adr) (H H' : Hp) : Prop where
  keep : Keep A.S H H'
  tups : Tups H H'
theorem Mv.refl (A : Adr) (H : Hp) : Mv A H H := ⟨Keep.refl _ _, Tups.refl _⟩
theorem Mv.trans {A : Adr} {H H1 H2 : Hp} (a : Mv A H H1) (b : Mv A H1 H2) : Mv A H H2 := ⟨a.keep.trans b.keep, a.tups.trans b.tups⟩
theorem Mv.same {A : Adr} {H H' : Hp} (s : Same H H') : Mv A H H' := ⟨Keep.of s, Tups.same s⟩
theorem Mv.upd {A : Adr} {H : Hp} {a : Addr} {o u : HO} (hS : A.S a) (h : H a = some o) (n : (∀ xs, o ≠ .tup xs) ∧ ∀ q v, o ≠ .frz q v) : Mv A H (upd H a u) := ⟨Keep.upd hS, tups_upd h n⟩
def hvs (h : Hd) (sp : V) (A : Adr) : List V := [sp, .int h.head, .bl h.down, .int h.ink, .ref A.ms, .ref A.st, .ref A.co, .int h.turns, .int h.rest, .ref A.pl]
def encM (q : Pt × Int) : PyData := .tuple [encP q.1, .int q.2]
structure MarksOk (K : PySem.W.Frag) (H : Hp) (kvs : List (Key × V)) (m : Int → Option (Pt × Int)) : Prop where
  no : ∀ k, m k = none → valV kvs (Sum.inl k : Key) = none
  yes : ∀ k q, m k = some q → 0 ≤ q.2 ∧ q.2 < 8 ∧ ∃ v, valV kvs (Sum.inl k : Key) = some v ∧ Tp K H (encM q) v
theorem MarksOk.mono {K : PySem.W.Frag} {H H' : Hp} {kvs : List (Key × V)} {m : Int → Option (Pt × Int)} (h : MarksOk K H kvs m) (t : Tups H H') : MarksOk K H' kvs m :=
  ⟨h.no, fun k q e => let ⟨a, b, v, c, d⟩ := h.yes k q e; ⟨a, b, v, c, Tp.mono t _ _ d⟩⟩
/-- the hand at A.x is h; u: how much more fits -/
structure HandAt (K : PySem.W.Frag) (CH : Addr) (A : Adr) (H : Hp) (h : Hd) (u : Nat) : Prop where
  ob : ∃ dx sp, H A.x = some (.ins CH dx (FN.zip (hvs h sp A))) ∧ Tp K H (encP h.spot) sp
  head : 0 ≤ h.head ∧ h.head < 8
  marks : ∃ kvs, H A.ms = some (.dK kvs) ∧ kvs.length + 3 * h.rest + u ≤ 3000 ∧ MarksOk K H kvs h.marks
  strokes : ∃ xs, H A.st = some (.lst xs) ∧ xs.length + 3 * h.rest + u ≤ 3000 ∧ TpAll K H (h.strokes.map encS) xs
  corners : ∃ xs, H A.co = some (.lst xs) ∧ xs.length + 3 * h.rest + u ≤ 3000 ∧ TpAll K H (h.corners.map encP) xs
  plain : ∃ xs, H A.pl = some (.lst xs) ∧ xs.length + 3 * h.rest + u ≤ 3000
  ap : A.st ≠ A.co ∧ A.st ≠ A.pl ∧ A.co ≠ A.pl
section
variable {K : PySem.W.Frag} {CH : Addr} {A : Adr} {H H' : Hp} {h : Hd} {u u' : Nat}
theorem HandAt.less (I : HandAt K CH A H h u) (hu : u' ≤ u) : HandAt K CH A H h u' := by
  obtain ⟨ob, hd, ⟨kvs, m1, m2, m3⟩, ⟨xs, s1, s2, s3⟩, ⟨ys, c1, c2, c3⟩, ⟨zs, p1, p2⟩, ap⟩ := I
  exact ⟨ob, hd, ⟨kvs, m1, by omega, m3⟩, ⟨xs, s1, by omega, s3⟩, ⟨ys, c1, by omega, c3⟩, ⟨zs, p1, by omega⟩, ap⟩
theorem HandAt.same (I : HandAt K CH A H h u) (s : Same H H') : HandAt K CH A H' h u := by
  obtain ⟨⟨dx, sp, o1, o2⟩, hd, ⟨kvs, m1, m2, m3⟩, ⟨xs, s1, s2, s3⟩, ⟨ys, c1, c2, c3⟩, ⟨zs, p1, p2⟩, ap⟩ := I
  have t := Tups.same s
  exact ⟨⟨dx, sp, s _ _ o1, Tp.mono t _ _ o2⟩, hd, ⟨kvs, s _ _ m1, m2, m3.mono t⟩, ⟨xs, s _ _ s1, s2, TpAll.mono t _ _ s3⟩, ⟨ys, s _ _ c1, c2, TpAll.mono t _ _ c3⟩, ⟨zs, s _ _ p1, p2⟩, ap⟩
theorem nt_ins {C dx : Addr} {fs : List (Str × V)} : (∀ xs, HO.ins C dx fs ≠ .tup xs) ∧ ∀ q v, HO.ins C dx fs ≠ .frz q v := ⟨fun xs z => (by cases z), fun q v z => (by cases z)⟩
theorem nt_lst {l : List V} : (∀ xs, HO.lst l ≠ .tup xs) ∧ ∀ q v, HO.lst l ≠ .frz q v := ⟨fun xs z => (by cases z), fun q v z => (by cases z)⟩
theorem nt_dk {l : List (Key × V)} : (∀ xs, HO.dK l ≠ .tup xs) ∧ ∀ q v, HO.dK l ≠ .frz q v := ⟨fun xs z => (by cases z), fun q v z => (by cases z)⟩
/-- an attribute of the hand is set -/
theorem HandAt.set {h2 : Hd} {dx : Addr} {sp0 sp : V} (I : HandAt K CH A H h u) (hob : H A.x = some (.ins CH dx (FN.zip (hvs h sp0 A)))) (hsp : Tp K H (encP h2.spot) sp) (hh : 0 ≤ h2.head ∧ h2.head < 8) (hr : 3 * h2.rest + u' ≤ 3 * h.rest + u)
    (em : h2.marks = h.marks) (es : h2.strokes = h.strokes) (ec : h2.corners = h.corners) :
    HandAt K CH A (upd H A.x (.ins CH dx (FN.zip (hvs h2 sp A)))) h2 u' ∧ Mv A H (upd H A.x (.ins CH dx (FN.zip (hvs h2 sp A)))) := by
  obtain ⟨_, hd, ⟨kvs, m1, m2, m3⟩, ⟨xs, s1, s2, s3⟩, ⟨ys, c1, c2, c3⟩, ⟨zs, p1, p2⟩, ap⟩ := I
  have mv : Mv A H (upd H A.x (.ins CH dx (FN.zip (hvs h2 sp A)))) := .upd (.inl rfl) hob nt_ins
  have n1 : A.ms ≠ A.x := ne_of m1 hob (by intro z; cases z)
  have n2 : A.st ≠ A.x := ne_of s1 hob (by intro z; cases z)
  have n3 : A.co ≠ A.x := ne_of c1 hob (by intro z; cases z)
  have n4 : A.pl ≠ A.x := ne_of p1 hob (by intro z; cases z)
  refine ⟨⟨⟨dx, sp, upd_same, Tp.mono mv.tups _ _ hsp⟩, hh, ⟨kvs, by rw [upd_ne n1]; exact m1, by omega, ?_⟩, ⟨xs, by rw [upd_ne n2]; exact s1, by omega, ?_⟩, ⟨ys, by rw [upd_ne n3]; exact c1, by omega, ?_⟩, ⟨zs, by rw [upd_ne n4]; exact p1, by omega⟩, ap⟩, mv⟩
  · rw [em]
    exact m3.mono mv.tups
  · rw [es]
    exact TpAll.mono mv.tups _ _ s3
  · rw [ec]
    exact TpAll.mono mv.tups _ _ c3
end
/-! ### a run's frame -/
abbrev CN : List Str := ["words", "numbers", "count"]
theorem cn_nd : CN.Nodup := by decide +kernel
structure WordsAt (K : PySem.W.Frag) (H : Hp) (wd : Addr) (W : List B) : Prop where
  ex : ∃ kvs, H wd = some (.dK kvs) ∧ ∀ j b, W[j]? = some b → ∃ v, valV kvs (Sum.inr (wname j) : Key) = some v ∧ Tp K H (.tuple (encB b)) v
structure CallAt (K : PySem.W.Frag) (CC : Addr) (A : Adr) (H : Hp) (c wd nl : Addr) (W : List B) (ctx : Ctx) : Prop where
  ob : ∃ dx, H c = some (.ins CC dx (CN.zip [.ref wd, .ref nl, .int ctx.count]))
  words : WordsAt K H wd W
  nums : H nl = some (.lst (ctx.nums.map V.int))
  ap : ¬ A.S c ∧ ¬ A.S wd ∧ ¬ A.S nl
theorem CallAt.mv {K : PySem.W.Frag} {CC : Addr} {A : Adr} {H H' : Hp} {c wd nl : Addr} {W : List B} {ctx : Ctx} (I : CallAt K CC A H c wd nl W ctx) (m : Mv A H H') : CallAt K CC A H' c wd nl W ctx := by
  obtain ⟨⟨dx, o⟩, ⟨kvs, w1, w2⟩, n, a1, a2, a3⟩ := I
  exact ⟨⟨dx, m.keep _ _ a1 o⟩, ⟨kvs, m.keep _ _ a2 w1, fun j b e => let ⟨v, e1, e2⟩ := w2 j b e; ⟨v, e1, Tp.mono m.tups _ _ e2⟩⟩, m.keep _ _ a3 n, a1, a2, a3⟩
/-- what is wanted behind a piece of the run -/
def Wish (K : PySem.W.Frag) (CH cS cM : Addr) (A : Adr) (H : Hp) (Q : VK) (E : XK) : Out → Prop
  | .ok h => ∀ H', Mv A H H' → HandAt K CH A H' h 0 → Q .non H'
  | .stop h => ∀ H', Mv A H H' → HandAt K CH A H' h 0 → E (.ref cS) none H'
  | .nomark h => ∀ H', Mv A H H' → HandAt K CH A H' h 0 → E (.ref cM) none H'
  | .great => False
  | .deep => False
theorem Wish.mv {K : PySem.W.Frag} {CH cS cM : Addr} {A : Adr} {H H1 : Hp} {Q : VK} {E : XK} {o : Out} (h : Wish K CH cS cM A H Q E o) (m : Mv A H H1) : Wish K CH cS cM A H1 Q E o := by
  cases o with
  | ok h' => exact fun H' m' i => h H' (m.trans m') i
  | stop h' => exact fun H' m' i => h H' (m.trans m') i
  | nomark h' => exact fun H' m' i => h H' (m.trans m') i
  | great => exact h
  | deep => exact h
/-- a piece, and what follows it -/
theorem Wish.bind {K : PySem.W.Frag} {CH cS cM : Addr} {A : Adr} {H : Hp} {Q Q' : VK} {E : XK} {o : Out} {f : Hd → Out} (h : Wish K CH cS cM A H Q E (o.bind f))
    (q : ∀ h1 H1, Mv A H H1 → HandAt K CH A H1 h1 0 → Wish K CH cS cM A H1 Q E (f h1) → Q' .non H1) : Wish K CH cS cM A H Q' E o := by
  cases o with
  | ok h1 => exact fun H1 m i => q h1 H1 m i (Wish.mv (show Wish K CH cS cM A H Q E (f h1) from h) m)
  | stop h1 => exact h
  | nomark h1 => exact h
  | great => exact h.elim
  | deep => exact h.elim
end TH
set_option Elab.async false
set_option linter.all false
set_option maxRecDepth 100000
set_option maxHeartbeats 4000000
namespace TH
open PySem PySem.Spec PyProof.Rows L2
abbrev cHand : Stmt := top 20
abbrev sHInit : Stmt := inClass cHand 0
abbrev sDeed : Stmt := inClass cHand 1
abbrev sGo : Stmt := inClass cHand 2
abbrev sTurn : Stmt := inClass cHand 3
abbrev sBack : Stmt := inClass cHand 4
abbrev sState : Stmt := inClass cHand 5
/-- a class of the text: its attributes' names are free -/
structure ClsT (K : PySem.W.Frag) (C : Addr) (N : List Str) : Prop where
  cl : Cls K C
  na : ∀ (i : Nat) (x : Str), N[i]? = some x → NoAttr K C x
/-- an own exception's class -/
structure ExT (K : PySem.W.Frag) (mg : Str → Option Value) (x : Str) (C : Addr) : Prop where
  g : mg x = some (.ref C)
  xP : PySem.W.excIn K C [.type "ValueError", .type "Exception", .type "BaseException", .type "object"] "ValueError.__new__" = true
  kP : PySem.W.keepIn K (.ref C) = true
  bP : PySem.W.subIn K (.ref C) (.type "BaseException") = some true
  tP : PySem.W.typeIn K (.ref C) = some (.type "type")
def spHInit (K : PySem.W.Frag) (CH : Addr) : Sp := fun vs H Q _ => ∃ (x dx : Addr) (M : Nat), vs = [.ref x, .int M] ∧ H x = some (.ins CH dx []) ∧ M ≤ 300 ∧
  ∀ (A : Adr) H', A.x = x → (∀ b, A.S b → b = x ∨ H b = none) → (∀ b o, b ≠ x → H b = some o → H' b = some o) → HandAt K CH A H' (Hd.init M) 0 → Q .non H'
def spDeed (K : PySem.W.Frag) (CH cS : Addr) : Sp := fun vs H Q E => ∃ (A : Adr) (h : Hd), vs = [.ref A.x] ∧ HandAt K CH A H h 0 ∧ (h.rest = 0 → E (.ref cS) none H) ∧
  (h.rest ≠ 0 → ∀ H', Mv A H H' → HandAt K CH A H' { h with rest := h.rest - 1 } 3 → Q .non H')
def spGo (K : PySem.W.Frag) (CH : Addr) : Sp := fun vs H Q _ => ∃ (A : Adr) (h : Hd) (u : Nat) (v : Int), vs = [.ref A.x, .int v] ∧ HandAt K CH A H h (u + 2) ∧ ∀ H', Mv A H H' → HandAt K CH A H' (h.go v) u → Q .non H'
def spTurn (K : PySem.W.Frag) (CH : Addr) : Sp := fun vs H Q _ => ∃ (A : Adr) (h : Hd) (u : Nat) (v : Int), vs = [.ref A.x, .int v] ∧ HandAt K CH A H h u ∧ ∀ H', Mv A H H' → HandAt K CH A H' (h.turn v) u → Q .non H'
def spBack (K : PySem.W.Frag) (CH cM : Addr) : Sp := fun vs H Q E => ∃ (A : Adr) (h : Hd) (u : Nat) (k : Int), vs = [.ref A.x, .int k] ∧ HandAt K CH A H h (u + 1) ∧ (h.marks k = none → E (.ref cM) none H) ∧
  ∀ q, h.marks k = some q → ∀ H', Mv A H H' → HandAt K CH A H' (h.back q) u → Q .non H'
def spState (K : PySem.W.Frag) (CH : Addr) : Sp := fun vs H Q _ => ∃ (A : Adr) (h : Hd) (u : Nat), vs = [.ref A.x] ∧ HandAt K CH A H h u ∧ ∀ z H', Same H H' → Tp K H' (.tuple [encP h.spot, .int h.head, .bool h.down, .int h.ink]) z → Q z H'
theorem lt1000 {N : List Str} {vs : List V} (h : N.length ≤ 20) : (N.zip vs).length < 1000 := by
  rw [List.length_zip]
  omega
section
variable {P : Program} {w : World} {K : PySem.W.Frag} {mg : Str → Option Value} {base : Heap} {CH cS cM : Addr}
theorem sc_deed : FnScope ["self"] ["self"] (defScope sDeed) := ⟨rfl, rfl, rfl, by decide +kernel, rfl, by decide +kernel, by decide +kernel⟩
theorem ok_deed {f : Addr} {fd : FuncData} (F : Fun K "deed" "Hand.deed" sDeed f fd) (T : ClsT K CH FN) (X : ExT K mg "Stopped" cS) : FnOk P w K mg base (L2.CX P w) 2 f fd ["self"] (spDeed K CH cS) := by
  refine F.okX sc_deed (fun vs H Q E h => ?_) (fun cdv A outer s H vs Q E hr h => ?_)
  · obtain ⟨A, h, rfl, _⟩ := h
    rfl
  obtain ⟨A, h, rfl, I, q0, q1⟩ := h
  refine ⟨_, (pss_cons (ps_if (pt_cmpR op_le (pe_fld (pv 0) rfl) pe_int (nomark _)) (pss_one (ps_raise rfl (takes_of rfl rfl rfl rfl) (pmk_own PySem.F.excBase_ValueError X.xP X.g X.kP (raises_own X.bP X.tP) rfl))) pss_nil)
    (pss_one (ps_fld (pv 0) (pe_op op_sub (pe_fld (pv 0) rfl) pe_int) rfl))), ?_⟩
  obtain ⟨dx, sp, o1, o2⟩ := I.ob
  refine ⟨_, rfl, A.x, CH, dx, _, _, rfl, o1, T.cl, T.na 8 _ rfl, zip_lookup fn_nd (i := 8) rfl rfl, _, _, rfl, rfl, _, rfl, ifd (fun c => ?_) (fun c => ?_)⟩
  · exact q0 (by omega)
  · have nz : h.rest ≠ 0 := by omega
    refine ⟨_, rfl, A.x, CH, dx, _, _, rfl, o1, T.cl, T.na 8 _ rfl, zip_lookup fn_nd (i := 8) rfl rfl, _, _, rfl, rfl, ?_⟩
    refine ⟨_, rfl, A.x, CH, dx, _, rfl, o1, T.cl, T.na 8 _ rfl, lt1000 (by decide), ?_⟩
    rw [zip_put fn_nd (i := 8) rfl rfl]
    have e : ((h.rest : Int) - 1) = ((h.rest - 1 : Nat) : Int) := by omega
    show Q .non (upd H A.x (.ins CH dx (FN.zip ((hvs h sp A).set 8 (.int ((h.rest : Int) - 1))))))
    rw [e]
    obtain ⟨J, mv⟩ := I.set (h2 := { h with rest := h.rest - 1 }) (u' := 3) o1 o2 I.head (by show 3 * (h.rest - 1) + 3 ≤ 3 * h.rest + 0; omega) rfl rfl rfl
    exact q1 nz _ mv J
theorem sc_turn : FnScope ["self", "eighths"] ["self", "eighths"] (defScope sTurn) := ⟨rfl, rfl, rfl, by decide +kernel, rfl, by decide +kernel, by decide +kernel⟩
theorem ok_turn {f : Addr} {fd : FuncData} (F : Fun K "turn" "Hand.turn" sTurn f fd) (T : ClsT K CH FN) : FnOk P w K mg base CX0 1 f fd ["self", "eighths"] (spTurn K CH) := by
  refine F.ok sc_turn (fun vs H Q E h => ?_) (fun cdv A outer s H vs Q E hr h => ?_)
  · obtain ⟨A, h, u, v, rfl, _⟩ := h
    rfl
  obtain ⟨A, h, u, v, rfl, I, q⟩ := h
  refine ⟨_, (pss_cons (ps_fld (pv 0) (pe_op op_add (pe_fld (pv 0) rfl) (pv 1)) rfl)
    (pss_one (ps_fld (pv 0) (pe_op op_mod (pe_op op_add (pe_fld (pv 0) rfl) (pv 1)) pe_int) rfl))), ?_⟩
  obtain ⟨dx, sp, o1, o2⟩ := I.ob
  refine ⟨_, rfl, A.x, CH, dx, _, _, rfl, o1, T.cl, T.na 7 _ rfl, zip_lookup fn_nd (i := 7) rfl rfl, _, rfl, _, _, rfl, rfl, ?_⟩
  refine ⟨_, rfl, A.x, CH, dx, _, rfl, o1, T.cl, T.na 7 _ rfl, lt1000 (by decide), ?_⟩
  rw [zip_put fn_nd (i := 7) rfl rfl]
  obtain ⟨J, mv⟩ := I.set (h2 := { h with turns := h.turns + v }) (u' := u) o1 o2 I.head (Nat.le_refl _) rfl rfl rfl
  refine ⟨_, rfl, A.x, CH, dx, _, _, rfl, upd_same, T.cl, T.na 1 _ rfl, zip_lookup fn_nd (i := 1) rfl rfl, _, rfl, _, _, rfl, rfl, _, _, rfl, rfl, (by show (0 : Int) < 8; decide), ?_⟩
  refine ⟨_, rfl, A.x, CH, dx, _, rfl, upd_same, T.cl, T.na 1 _ rfl, lt1000 (by decide), ?_⟩
  rw [zip_put fn_nd (i := 1) rfl rfl]
  obtain ⟨J2, mv2⟩ := J.set (h2 := h.turn v) (u' := u) upd_same (Tp.mono mv.tups _ _ o2) (by show 0 ≤ (h.head + v) % 8 ∧ (h.head + v) % 8 < 8; omega) (Nat.le_refl _) rfl rfl rfl
  exact q _ (mv.trans mv2) J2
theorem sc_state : FnScope ["self"] ["self"] (defScope sState) := ⟨rfl, rfl, rfl, by decide +kernel, rfl, by decide +kernel, by decide +kernel⟩
theorem ok_state {f : Addr} {fd : FuncData} (F : Fun K "state" "Hand.state" sState f fd) (T : ClsT K CH FN) : FnOk P w K mg base CX0 1 f fd ["self"] (spState K CH) := by
  refine F.ok sc_state (fun vs H Q E h => ?_) (fun cdv A outer s H vs Q E hr h => ?_)
  · obtain ⟨A, h, u, rfl, _⟩ := h
    rfl
  obtain ⟨A, h, u, rfl, I, q⟩ := h
  refine ⟨_, (pss_one (ps_ret (pe_tup (pa_cons (pe_fld (pv 0) rfl) (pa_cons (pe_fld (pv 0) rfl) (pa_cons (pe_fld (pv 0) rfl) (pa_cons (pe_fld (pv 0) rfl) pa_nil))))))), ?_⟩
  obtain ⟨dx, sp, o1, o2⟩ := I.ob
  refine ⟨_, rfl, A.x, CH, dx, _, _, rfl, o1, T.cl, T.na 0 _ rfl, zip_lookup fn_nd (i := 0) rfl rfl, _, rfl, A.x, CH, dx, _, _, rfl, o1, T.cl, T.na 1 _ rfl, zip_lookup fn_nd (i := 1) rfl rfl, _, rfl, A.x, CH, dx, _, _, rfl, o1, T.cl, T.na 2 _ rfl, zip_lookup fn_nd (i := 2) rfl rfl, _, rfl, A.x, CH, dx, _, _, rfl, o1, T.cl, T.na 3 _ rfl, zip_lookup fn_nd (i := 3) rfl rfl, len4, fun z hz => ?_⟩
  have s1 := same_new hz (.tup [sp, V.int h.head, V.bl h.down, V.int h.ink])
  exact q _ _ s1 (tp_tup sqt_new (tpa_cons (Tp.mono (Tups.same s1) _ _ o2) (tpa_cons tp_int (tpa_cons tp_bool (tpa_cons tp_int tpa_nil)))))
theorem sc_hinit : FnScope ["self", "most"] ["self", "most"] (defScope sHInit) := ⟨rfl, rfl, rfl, by decide +kernel, rfl, by decide +kernel, by decide +kernel⟩
theorem ok_hinit {f aB : Addr} {fd : FuncData} (F : Fun K "__init__" "Hand.__init__" sHInit f fd) (T : ClsT K CH FN) (gB : mg "BEGINNING" = some (.ref aB)) (hB : ∀ H, Tp K H (encP origin) (.ref aB)) : FnOk P w K mg base CX0 1 f fd ["self", "most"] (spHInit K CH) := by
  refine F.ok sc_hinit (fun vs H Q E h => ?_) (fun cdv A outer s H vs Q E hr h => ?_)
  · obtain ⟨x, dx, M, rfl, _⟩ := h
    rfl
  obtain ⟨x, dx, M, rfl, hx, hM, q⟩ := h
  refine ⟨_, (pss_cons (ps_fld (pv 0) (pe_glob (v := .ref aB) rfl gB rfl) rfl)
    (pss_cons (ps_fld (pv 0) pe_int rfl)
    (pss_cons (ps_fld (pv 0) pe_bl rfl)
    (pss_cons (ps_fld (pv 0) pe_int rfl)
    (pss_cons (ps_fld (pv 0) pe_dnewK rfl)
    (pss_cons (ps_fld (pv 0) (pe_lst pa_nil) rfl)
    (pss_cons (ps_fld (pv 0) (pe_lst (pa_cons (pe_glob (v := .ref aB) rfl gB rfl) pa_nil)) rfl)
    (pss_cons (ps_fld (pv 0) pe_int rfl)
    (pss_cons (ps_fld (pv 0) (pv 1) rfl)
    (pss_one (ps_fld (pv 0) (pe_lst pa_nil) rfl))))))))))), ?_⟩
  refine ⟨_, rfl, x, CH, dx, ([] : List Str).zip [], rfl, hx, T.cl, T.na 0 _ rfl, lt1000 (by decide), ?_⟩
  rw [zip_new (N := []) (by decide +kernel) rfl]
  refine ⟨_, rfl, x, CH, dx, _, rfl, upd_same, T.cl, T.na 1 _ rfl, lt1000 (by decide), ?_⟩
  rw [upd_upd, zip_new (by decide +kernel) rfl]
  refine ⟨_, rfl, x, CH, dx, _, rfl, upd_same, T.cl, T.na 2 _ rfl, lt1000 (by decide), ?_⟩
  rw [upd_upd, zip_new (by decide +kernel) rfl]
  refine ⟨_, rfl, x, CH, dx, _, rfl, upd_same, T.cl, T.na 3 _ rfl, lt1000 (by decide), ?_⟩
  rw [upd_upd, zip_new (by decide +kernel) rfl]
  intro ms hms
  have n1 : ms ≠ x := fun z => by rw [z, upd_same] at hms; cases hms
  have hms0 : H ms = none := by rw [upd_ne n1] at hms; exact hms
  refine ⟨_, rfl, x, CH, dx, _, rfl, (by rw [upd_ne n1.symm]; exact upd_same), T.cl, T.na 4 _ rfl, lt1000 (by decide), ?_⟩
  rw [zip_new (by decide +kernel) rfl]
  refine ⟨Nat.zero_le _, fun st hst => ?_⟩
  have n2 : st ≠ x := fun z => by rw [z, upd_same] at hst; cases hst
  rw [upd_ne n2] at hst
  have n3 : st ≠ ms := fun z => by rw [z, upd_same] at hst; cases hst
  rw [upd_ne n3, upd_ne n2] at hst
  refine ⟨_, rfl, x, CH, dx, _, rfl, (by rw [upd_ne n2.symm]; exact upd_same), T.cl, T.na 5 _ rfl, lt1000 (by decide), ?_⟩
  rw [zip_new (by decide +kernel) rfl]
  refine ⟨len1, fun co hco => ?_⟩
  have n4 : co ≠ x := fun z => by rw [z, upd_same] at hco; cases hco
  rw [upd_ne n4] at hco
  have n5 : co ≠ st := fun z => by rw [z, upd_same] at hco; cases hco
  rw [upd_ne n5, upd_ne n4] at hco
  have n6 : co ≠ ms := fun z => by rw [z, upd_same] at hco; cases hco
  rw [upd_ne n6, upd_ne n4] at hco
  refine ⟨_, rfl, x, CH, dx, _, rfl, (by rw [upd_ne n4.symm]; exact upd_same), T.cl, T.na 6 _ rfl, lt1000 (by decide), ?_⟩
  rw [zip_new (by decide +kernel) rfl]
  refine ⟨_, rfl, x, CH, dx, _, rfl, upd_same, T.cl, T.na 7 _ rfl, lt1000 (by decide), ?_⟩
  rw [upd_upd, zip_new (by decide +kernel) rfl]
  refine ⟨_, rfl, _, rfl, x, CH, dx, _, rfl, upd_same, T.cl, T.na 8 _ rfl, lt1000 (by decide), ?_⟩
  rw [upd_upd, zip_new (by decide +kernel) rfl]
  refine ⟨Nat.zero_le _, fun pl hpl => ?_⟩
  have n7 : pl ≠ x := fun z => by rw [z, upd_same] at hpl; cases hpl
  rw [upd_ne n7] at hpl
  have n8 : pl ≠ co := fun z => by rw [z, upd_same] at hpl; cases hpl
  rw [upd_ne n8, upd_ne n7] at hpl
  have n9 : pl ≠ st := fun z => by rw [z, upd_same] at hpl; cases hpl
  rw [upd_ne n9, upd_ne n7] at hpl
  have n10 : pl ≠ ms := fun z => by rw [z, upd_same] at hpl; cases hpl
  rw [upd_ne n10, upd_ne n7] at hpl
  refine ⟨_, rfl, x, CH, dx, _, rfl, (by rw [upd_ne n7.symm]; exact upd_same), T.cl, T.na 9 _ rfl, lt1000 (by decide), ?_⟩
  rw [zip_new (by decide +kernel) rfl]
  refine q ⟨x, ms, st, co, pl⟩ _ rfl (fun b hb => ?_) (fun b o nb e => ?_) ⟨⟨dx, .ref aB, upd_same, hB _⟩, ⟨Int.le_refl 0, (show (0 : Int) < 8 by decide)⟩, ⟨[], ?_, ?_, ?_⟩, ⟨[], ?_, ?_, ?_⟩, ⟨[.ref aB], ?_, ?_, ?_⟩, ⟨[], ?_, ?_⟩, n5.symm, n9.symm, n8.symm⟩
  · rcases hb with rfl | rfl | rfl | rfl | rfl
    · exact .inl rfl
    · exact .inr hms0
    · exact .inr hst
    · exact .inr hco
    · exact .inr hpl
  · rw [upd_ne nb, upd_ne (ne_of_none e hpl), upd_ne nb, upd_ne (ne_of_none e hco), upd_ne nb, upd_ne (ne_of_none e hst), upd_ne nb, upd_ne (ne_of_none e hms0), upd_ne nb]
    exact e
  · rw [upd_ne n1, upd_ne n10.symm, upd_ne n1, upd_ne n6.symm, upd_ne n1, upd_ne n3.symm, upd_ne n1, upd_same]
  · show 0 + 3 * M + 0 ≤ 3000
    omega
  · exact ⟨fun k _ => rfl, fun k q e => by cases e⟩
  · rw [upd_ne n2, upd_ne n9.symm, upd_ne n2, upd_ne n5.symm, upd_ne n2, upd_same]
  · show 0 + 3 * M + 0 ≤ 3000
    omega
  · exact tpa_nil
  · rw [upd_ne n4, upd_ne n8.symm, upd_ne n4, upd_same]
  · show 1 + 3 * M + 0 ≤ 3000
    omega
  · exact tpa_cons (hB _) tpa_nil
  · rw [upd_ne n7, upd_same]
  · show 0 + 3 * M + 0 ≤ 3000
    omega
theorem sc_go : FnScope ["self", "steps", "ahead"] ["self", "steps"] (defScope sGo) := ⟨rfl, rfl, rfl, by decide +kernel, rfl, by decide +kernel, by decide +kernel⟩
/-- a thing is laid behind a list of the hand's -/
theorem HandAt.strokes_add {A : Adr} {H : Hp} {h : Hd} {u : Nat} {v : V} {z : Int × Pt × Pt} (I : HandAt K CH A H h (u + 1)) {xs : List V} (e : H A.st = some (.lst xs)) (hv : Tp K H (encS z) v) :
    HandAt K CH A (upd H A.st (.lst (xs ++ [v]))) { h with strokes := h.strokes ++ [z] } u ∧ Mv A H (upd H A.st (.lst (xs ++ [v]))) ∧ xs.length < sizeLine := by
  obtain ⟨⟨dx, sp, o1, o2⟩, hd, ⟨kvs, m1, m2, m3⟩, ⟨xs', s1, s2, s3⟩, ⟨ys, c1, c2, c3⟩, ⟨zs, p1, p2⟩, ap⟩ := I
  rw [e] at s1
  cases s1
  have mv : Mv A H (upd H A.st (.lst (xs ++ [v]))) := .upd (.inr (.inr (.inl rfl))) e nt_lst
  have n1 : A.x ≠ A.st := ne_of o1 e (by intro z; cases z)
  have n2 : A.ms ≠ A.st := ne_of m1 e (by intro z; cases z)
  refine ⟨⟨⟨dx, sp, by rw [upd_ne n1]; exact o1, Tp.mono mv.tups _ _ o2⟩, hd, ⟨kvs, by rw [upd_ne n2]; exact m1, by show _ + 3 * h.rest + u ≤ 3000; omega, m3.mono mv.tups⟩, ⟨_, upd_same, by rw [List.length_append]; show _ + 1 + 3 * h.rest + u ≤ 3000; omega, ?_⟩,
    ⟨ys, by rw [upd_ne ap.1.symm]; exact c1, by show _ + 3 * h.rest + u ≤ 3000; omega, TpAll.mono mv.tups _ _ c3⟩, ⟨zs, by rw [upd_ne ap.2.1.symm]; exact p1, by show _ + 3 * h.rest + u ≤ 3000; omega⟩, ap⟩, mv, Nat.lt_of_lt_of_le (show xs.length < 16777216 by omega) (by rw [sizeLine_eq]; exact Nat.le_refl _)⟩
  show TpAll K _ ((h.strokes ++ [z]).map encS) _
  rw [List.map_append]
  exact TpAll.snoc (TpAll.mono mv.tups _ _ s3) (Tp.mono mv.tups _ _ hv)
theorem HandAt.corners_add {A : Adr} {H : Hp} {h : Hd} {u : Nat} {v : V} {z : Pt} (I : HandAt K CH A H h (u + 1)) {xs : List V} (e : H A.co = some (.lst xs)) (hv : Tp K H (encP z) v) :
    HandAt K CH A (upd H A.co (.lst (xs ++ [v]))) { h with corners := h.corners ++ [z] } u ∧ Mv A H (upd H A.co (.lst (xs ++ [v]))) ∧ xs.length < sizeLine := by
  obtain ⟨⟨dx, sp, o1, o2⟩, hd, ⟨kvs, m1, m2, m3⟩, ⟨ys, s1, s2, s3⟩, ⟨xs', c1, c2, c3⟩, ⟨zs, p1, p2⟩, ap⟩ := I
  rw [e] at c1
  cases c1
  have mv : Mv A H (upd H A.co (.lst (xs ++ [v]))) := .upd (.inr (.inr (.inr (.inl rfl)))) e nt_lst
  have n1 : A.x ≠ A.co := ne_of o1 e (by intro z; cases z)
  have n2 : A.ms ≠ A.co := ne_of m1 e (by intro z; cases z)
  refine ⟨⟨⟨dx, sp, by rw [upd_ne n1]; exact o1, Tp.mono mv.tups _ _ o2⟩, hd, ⟨kvs, by rw [upd_ne n2]; exact m1, by show _ + 3 * h.rest + u ≤ 3000; omega, m3.mono mv.tups⟩,
    ⟨ys, by rw [upd_ne ap.1]; exact s1, by show _ + 3 * h.rest + u ≤ 3000; omega, TpAll.mono mv.tups _ _ s3⟩, ⟨_, upd_same, by rw [List.length_append]; show _ + 1 + 3 * h.rest + u ≤ 3000; omega, ?_⟩, ⟨zs, by rw [upd_ne ap.2.2.symm]; exact p1, by show _ + 3 * h.rest + u ≤ 3000; omega⟩, ap⟩, mv, Nat.lt_of_lt_of_le (show xs.length < 16777216 by omega) (by rw [sizeLine_eq]; exact Nat.le_refl _)⟩
  show TpAll K _ ((h.corners ++ [z]).map encP) _
  rw [List.map_append]
  exact TpAll.snoc (TpAll.mono mv.tups _ _ c3) (Tp.mono mv.tups _ _ hv)
theorem HandAt.plain_add {A : Adr} {H : Hp} {h : Hd} {u : Nat} {v : V} (I : HandAt K CH A H h (u + 1)) {xs : List V} (e : H A.pl = some (.lst xs)) :
    HandAt K CH A (upd H A.pl (.lst (xs ++ [v]))) h u ∧ Mv A H (upd H A.pl (.lst (xs ++ [v]))) ∧ xs.length < sizeLine := by
  obtain ⟨⟨dx, sp, o1, o2⟩, hd, ⟨kvs, m1, m2, m3⟩, ⟨ys, s1, s2, s3⟩, ⟨ws, c1, c2, c3⟩, ⟨zs, p1, p2⟩, ap⟩ := I
  rw [e] at p1
  cases p1
  have mv : Mv A H (upd H A.pl (.lst (xs ++ [v]))) := .upd (.inr (.inr (.inr (.inr rfl)))) e nt_lst
  have n1 : A.x ≠ A.pl := ne_of o1 e (by intro z; cases z)
  have n2 : A.ms ≠ A.pl := ne_of m1 e (by intro z; cases z)
  exact ⟨⟨⟨dx, sp, by rw [upd_ne n1]; exact o1, Tp.mono mv.tups _ _ o2⟩, hd, ⟨kvs, by rw [upd_ne n2]; exact m1, by omega, m3.mono mv.tups⟩,
    ⟨ys, by rw [upd_ne ap.2.1]; exact s1, by omega, TpAll.mono mv.tups _ _ s3⟩, ⟨ws, by rw [upd_ne ap.2.2]; exact c1, by omega, TpAll.mono mv.tups _ _ c3⟩, ⟨_, upd_same, by rw [List.length_append]; show _ + 1 + 3 * h.rest + u ≤ 3000; omega⟩, ap⟩, mv, Nat.lt_of_lt_of_le (show xs.length < 16777216 by omega) (by rw [sizeLine_eq]; exact Nat.le_refl _)⟩
theorem HandAt.marks_add {A : Adr} {H : Hp} {h : Hd} {u : Nat} {v : V} {k : Int} (I : HandAt K CH A H h (u + 1)) {kvs : List (Key × V)} (e : H A.ms = some (.dK kvs)) (hv : Tp K H (encM (h.spot, h.head)) v) :
    HandAt K CH A (upd H A.ms (.dK (putK kvs (Sum.inl k : Key) v))) (h.mark k) u ∧ Mv A H (upd H A.ms (.dK (putK kvs (Sum.inl k : Key) v))) ∧ kvs.length < sizeLine := by
  obtain ⟨⟨dx, sp, o1, o2⟩, hd, ⟨kvs', m1, m2, m3⟩, ⟨ys, s1, s2, s3⟩, ⟨ws, c1, c2, c3⟩, ⟨zs, p1, p2⟩, ap⟩ := I
  rw [e] at m1
  cases m1
  have mv : Mv A H (upd H A.ms (.dK (putK kvs (Sum.inl k : Key) v))) := .upd (.inr (.inl rfl)) e nt_dk
  have n1 : A.x ≠ A.ms := ne_of o1 e (by intro z; cases z)
  have n2 : A.st ≠ A.ms := ne_of s1 e (by intro z; cases z)
  have n3 : A.co ≠ A.ms := ne_of c1 e (by intro z; cases z)
  have n4 : A.pl ≠ A.ms := ne_of p1 e (by intro z; cases z)
  have lp := length_putK kvs (Sum.inl k : Key) v
  refine ⟨⟨⟨dx, sp, by rw [upd_ne n1]; exact o1, Tp.mono mv.tups _ _ o2⟩, hd, ⟨_, upd_same, by show _ + 3 * h.rest + u ≤ 3000; omega, ?_⟩,
    ⟨ys, by rw [upd_ne n2]; exact s1, by show _ + 3 * h.rest + u ≤ 3000; omega, TpAll.mono mv.tups _ _ s3⟩, ⟨ws, by rw [upd_ne n3]; exact c1, by show _ + 3 * h.rest + u ≤ 3000; omega, TpAll.mono mv.tups _ _ c3⟩, ⟨zs, by rw [upd_ne n4]; exact p1, by show _ + 3 * h.rest + u ≤ 3000; omega⟩, ap⟩, mv, Nat.lt_of_lt_of_le (show kvs.length < 16777216 by omega) (by rw [sizeLine_eq]; exact Nat.le_refl _)⟩
  refine ⟨fun j ej => ?_, fun j q ej => ?_⟩
  · have ej : (if j = k then some (h.spot, h.head) else h.marks j) = none := ej
    by_cases c : j = k
    · rw [if_pos c] at ej
      cases ej
    · rw [if_neg c] at ej
      rw [valV_put, if_neg (fun z => c (Sum.inl.inj z))]
      exact m3.no j ej
  · have ej : (if j = k then some (h.spot, h.head) else h.marks j) = some q := ej
    by_cases c : j = k
    · rw [if_pos c] at ej
      cases ej
      rw [valV_put, if_pos (by rw [c])]
      exact ⟨hd.1, hd.2, v, rfl, Tp.mono mv.tups _ _ hv⟩
    · rw [if_neg c] at ej
      rw [valV_put, if_neg (fun z => c (Sum.inl.inj z))]
      exact (m3.mono mv.tups).yes j q ej
theorem ok_go {f fM : Addr} {fd fdM : FuncData} (F : Fun K "go" "Hand.go" sGo f fd) (T : ClsT K CH FN) (DM : Dn P w K mg base CX0 2 "moved" fM fdM ["place", "heading", "steps"] (spMoved K)) : FnOk P w K mg base CX0 3 f fd ["self", "steps"] (spGo K CH) := by
  refine F.ok sc_go (fun vs H Q E h => ?_) (fun cdv A outer s H vs Q E hr h => ?_)
  · obtain ⟨A, h, u, v, rfl, _⟩ := h
    rfl
  obtain ⟨A, h, u, v, rfl, I, q⟩ := h
  refine ⟨_, (pss_cons (ps_set (i := 2) sc_go.nd rfl (.inl rfl) (dn_call DM hr (by omega) rfl pass0 (pa_cons (pe_fld (pv 0) rfl) (pa_cons (pe_fld (pv 0) rfl) (pa_cons (pv 1) pa_nil)))))
    (pss_cons (ps_if (PW.pt (pw_and (pt_val (pe_fld (pv 0) rfl)) (pw_and1 (pt_cmpR op_ne (pv 1) pe_int (nomark _))))) (pss_one (ps_expr (pe_bm PySem.F.plainAttrs_list PySem.F.slot_list_append PySem.F.type_list_append mt_append (pe_fld (pv 0) rfl) (pa_cons (pe_tup (pa_cons (pe_fld (pv 0) rfl) (pa_cons (pe_fld (pv 0) rfl) (pa_cons (pv 2) pa_nil)))) pa_nil)))) pss_nil)
    (pss_cons (ps_fld (pv 0) (pv 2) rfl)
    (pss_one (ps_expr (pe_bm PySem.F.plainAttrs_list PySem.F.slot_list_append PySem.F.type_list_append mt_append (pe_fld (pv 0) rfl) (pa_cons (pv 2) pa_nil))))))), ?_⟩
  obtain ⟨dx, sp, o1, o2⟩ := I.ob
  refine ⟨_, rfl, A.x, CH, dx, _, _, rfl, o1, T.cl, T.na 0 _ rfl, zip_lookup fn_nd (i := 0) rfl rfl, _, rfl, A.x, CH, dx, _, _, rfl, o1, T.cl, T.na 1 _ rfl, zip_lookup fn_nd (i := 1) rfl rfl, _, rfl, sp, h.spot, h.head, v, rfl, I.head.1, I.head.2, o2, fun z H1 s1 hz => ?_⟩
  have I1 := I.same s1
  have o1' := s1 _ _ o1
  have o2' := Tp.mono (Tups.same s1) _ _ o2
  have m1 : Mv A H H1 := .same s1
  refine ⟨_, rfl, A.x, CH, dx, _, _, rfl, o1', T.cl, T.na 2 _ rfl, zip_lookup fn_nd (i := 2) rfl rfl, _, rfl, ?_⟩
  have no : h.down ≠ true ∨ v = 0 → (h.go v) = { { h with spot := moved h.spot h.head v } with corners := h.corners ++ [moved h.spot h.head v], log := v :: h.log } := by
    intro c
    unfold Hd.go
    rw [if_neg (by intro z; rcases c with c | c; exact c z.1; exact z.2 c)]
  have yes : h.down = true → v ≠ 0 → (h.go v) = { { { h with strokes := h.strokes ++ [(h.ink, h.spot, moved h.spot h.head v)] } with spot := moved h.spot h.head v } with corners := h.corners ++ [moved h.spot h.head v], log := v :: h.log } := by
    intro c1 c2
    unfold Hd.go
    rw [if_pos ⟨c1, c2⟩]
  have plainTail : (h.down ≠ true ∨ v = 0) → ∀ (k : Hp → Prop), (∀ H', Mv A H H' → HandAt K CH A H' (h.go v) u → k H') →
      ∃ xs, (upd H1 A.x (.ins CH dx (FN.zip (hvs { h with spot := moved h.spot h.head v } z A)))) A.co = some (.lst xs) ∧ xs.length < sizeLine ∧ k (upd (upd H1 A.x (.ins CH dx (FN.zip (hvs { h with spot := moved h.spot h.head v } z A)))) A.co (.lst (xs ++ [z]))) := by
    intro c k hk
    obtain ⟨J, mv⟩ := I1.set (h2 := { h with spot := moved h.spot h.head v }) (u' := u + 1) o1' hz I1.head (by show 3 * h.rest + (u + 1) ≤ 3 * h.rest + (u + 2); omega) rfl rfl rfl
    obtain ⟨xs, c1, _, _⟩ := J.corners
    obtain ⟨J2, mv2, l⟩ := J.corners_add c1 (Tp.mono mv.tups _ _ hz)
    refine ⟨xs, c1, l, hk _ (m1.trans (mv.trans mv2)) ?_⟩
    rw [no c]
    obtain ⟨a1, a2, a3, a4, a5, a6, a7⟩ := J2
    exact ⟨a1, a2, a3, a4, a5, a6, a7⟩
  refine ite2 (fun c1 => ?_) (fun c1 => ?_)
  · refine ⟨_, rfl, rfl, _, rfl, ifn_of (fun c2 => ?_) (fun c2 => ?_)⟩
    · obtain ⟨xs, d1, _, _⟩ := I1.strokes
      refine ⟨_, rfl, A.x, CH, dx, _, _, rfl, o1', T.cl, T.na 5 _ rfl, zip_lookup fn_nd (i := 5) rfl rfl, .inl ⟨rfl, _, SqL.of d1⟩, ?_⟩
      refine ⟨_, rfl, A.x, CH, dx, _, _, rfl, o1', T.cl, T.na 3 _ rfl, zip_lookup fn_nd (i := 3) rfl rfl, _, rfl, A.x, CH, dx, _, _, rfl, o1', T.cl, T.na 0 _ rfl, zip_lookup fn_nd (i := 0) rfl rfl, _, rfl, len3, fun t ht => ?_⟩
      have s2 := same_new ht (.tup [V.int h.ink, sp, z])
      have I2 := I1.same s2
      have t2 := Tups.same s2
      have hzt : Tp K (upd H1 t (.tup [V.int h.ink, sp, z])) (encS (h.ink, h.spot, moved h.spot h.head v)) (.ref t) := tp_tup sqt_new (tpa_cons tp_int (tpa_cons (Tp.mono t2 _ _ o2') (tpa_cons (Tp.mono t2 _ _ hz) tpa_nil)))
      obtain ⟨J, mv, l⟩ := I2.strokes_add (s2 _ _ d1) hzt
      refine ⟨A.st, xs, _, rfl, rfl, s2 _ _ d1, l, ?_⟩
      have o3 : (upd (upd H1 t (.tup [V.int h.ink, sp, z])) A.st (.lst (xs ++ [.ref t]))) A.x = some (.ins CH dx (FN.zip (hvs h sp A))) := by
        rw [upd_ne (ne_of o1' d1 (by intro z; cases z))]
        exact s2 _ _ o1'
      refine ⟨_, rfl, _, rfl, A.x, CH, dx, _, rfl, o3, T.cl, T.na 0 _ rfl, lt1000 (by decide), ?_⟩
      rw [zip_put fn_nd (i := 0) rfl rfl]
      have hz3 := Tp.mono (t2.trans mv.tups) _ _ hz
      obtain ⟨J2, mv2⟩ := J.set (h2 := { { h with strokes := h.strokes ++ [(h.ink, h.spot, moved h.spot h.head v)] } with spot := moved h.spot h.head v }) (sp0 := sp) (u' := u + 1) o3 hz3 J.head (Nat.le_refl _) rfl rfl rfl
      obtain ⟨ys, e1, _, _⟩ := J2.corners
      obtain ⟨J3, mv3, l2⟩ := J2.corners_add e1 (Tp.mono mv2.tups _ _ hz3)
      refine ⟨_, rfl, A.x, CH, dx, _, _, rfl, upd_same, T.cl, T.na 6 _ rfl, zip_lookup fn_nd (i := 6) rfl rfl, .inl ⟨rfl, _, SqL.of e1⟩, _, rfl, A.co, ys, z, rfl, rfl, e1, l2, ?_⟩
      refine q _ (m1.trans ((Mv.same s2).trans (mv.trans (mv2.trans mv3)))) ?_
      rw [yes c1 c2]
      obtain ⟨a1, a2, a3, a4, a5, a6, a7⟩ := J3
      exact ⟨a1, a2, a3, a4, a5, a6, a7⟩
    · refine ⟨_, rfl, _, rfl, A.x, CH, dx, _, rfl, o1', T.cl, T.na 0 _ rfl, lt1000 (by decide), ?_⟩
      rw [zip_put fn_nd (i := 0) rfl rfl]
      obtain ⟨xs, e1, e2, e3⟩ := plainTail (.inr c2) (fun H' => Q .non H') q
      exact ⟨_, rfl, A.x, CH, dx, _, _, rfl, upd_same, T.cl, T.na 6 _ rfl, zip_lookup fn_nd (i := 6) rfl rfl, .inl ⟨rfl, _, SqL.of e1⟩, _, rfl, A.co, xs, z, rfl, rfl, e1, e2, e3⟩
  · refine ⟨_, rfl, _, rfl, A.x, CH, dx, _, rfl, o1', T.cl, T.na 0 _ rfl, lt1000 (by decide), ?_⟩
    rw [zip_put fn_nd (i := 0) rfl rfl]
    obtain ⟨xs, e1, e2, e3⟩ := plainTail (.inl c1) (fun H' => Q .non H') q
    exact ⟨_, rfl, A.x, CH, dx, _, _, rfl, upd_same, T.cl, T.na 6 _ rfl, zip_lookup fn_nd (i := 6) rfl rfl, .inl ⟨rfl, _, SqL.of e1⟩, _, rfl, A.co, xs, z, rfl, rfl, e1, e2, e3⟩
theorem sc_back : FnScope ["self", "number"] ["self", "number"] (defScope sBack) := ⟨rfl, rfl, rfl, by decide +kernel, rfl, by decide +kernel, by decide +kernel⟩
theorem ok_back {f : Addr} {fd : FuncData} (F : Fun K "back" "Hand.back" sBack f fd) (T : ClsT K CH FN) (X : ExT K mg "NoMark" cM) : FnOk P w K mg base (L2.CX P w) 2 f fd ["self", "number"] (spBack K CH cM) := by
  refine F.okX sc_back (fun vs H Q E h => ?_) (fun cdv A outer s H vs Q E hr h => ?_)
  · obtain ⟨A, h, u, k, rfl, _⟩ := h
    rfl
  obtain ⟨A, h, u, k, rfl, I, q0, q1⟩ := h
  have hu := hu_of hr
  refine ⟨_, (pss_cons (ps_if (pt_cmp (pc_dnotin hu (pv 1) (pe_fld (pv 0) rfl))) (pss_one (ps_raise rfl (takes_of rfl rfl rfl rfl) (pmk_own PySem.F.excBase_ValueError X.xP X.g X.kP (raises_own X.bP X.tP) rfl))) pss_nil)
    (pss_cons (ps_asg (pe_dget hu (pe_fld (pv 0) rfl) (pv 1) (fun _ _ => rfl)) (pg_tup rfl (pgs_cons (pg_fld (pv 0)) (pgs_cons (pg_fld (pv 0)) pgs_nil))))
    (pss_one (ps_expr (pe_bm PySem.F.plainAttrs_list PySem.F.slot_list_append PySem.F.type_list_append mt_append (pe_fld (pv 0) rfl) (pa_cons (pe_fld (pv 0) rfl) pa_nil)))))), ?_⟩
  obtain ⟨dx, sp, o1, o2⟩ := I.ob
  obtain ⟨kvs, m1, m2, m3⟩ := I.marks
  refine ⟨_, rfl, _, rfl, A.x, CH, dx, _, _, rfl, o1, T.cl, T.na 4 _ rfl, zip_lookup fn_nd (i := 4) rfl rfl, A.ms, _, rfl, DGet.k (k := Sum.inl k) m1, _, rfl, ?_⟩
  cases e : h.marks k with
  | none =>
    rw [m3.no k e]
    refine iteT ?_
    exact q0 e
  | some z =>
    obtain ⟨z1, z2, v, ev, hv⟩ := m3.yes k z e
    rw [ev]
    refine iteF ?_
    obtain ⟨t, a, b, rfl, ht, ha, hb⟩ := tp_two hv
    obtain rfl := hb.i
    refine ⟨_, rfl, A.x, CH, dx, _, _, rfl, o1, T.cl, T.na 4 _ rfl, zip_lookup fn_nd (i := 4) rfl rfl, _, rfl, A.ms, .ref t, rfl, (by rw [← ev]; exact DGet.k (k := Sum.inl k) m1), t, _, rfl, ht, rfl, ?_⟩
    refine ⟨_, _, rfl, _, rfl, A.x, CH, dx, _, rfl, o1, T.cl, T.na 0 _ rfl, lt1000 (by decide), ?_⟩
    rw [zip_put fn_nd (i := 0) rfl rfl]
    obtain ⟨J, mv⟩ := I.set (h2 := { h with spot := z.1 }) (u' := u + 1) o1 ha I.head (Nat.le_refl _) rfl rfl rfl
    refine ⟨_, _, rfl, _, rfl, A.x, CH, dx, _, rfl, upd_same, T.cl, T.na 1 _ rfl, lt1000 (by decide), ?_⟩
    rw [zip_put fn_nd (i := 1) rfl rfl]
    obtain ⟨J2, mv2⟩ := J.set (h2 := { h with spot := z.1, head := z.2 }) (u' := u + 1) upd_same (Tp.mono mv.tups _ _ ha) ⟨z1, z2⟩ (Nat.le_refl _) rfl rfl rfl
    obtain ⟨ys, e1, _, _⟩ := J2.corners
    obtain ⟨J3, mv3, l2⟩ := J2.corners_add e1 (Tp.mono (mv.trans mv2).tups _ _ ha)
    refine ⟨rfl, _, rfl, A.x, CH, dx, _, _, rfl, upd_same, T.cl, T.na 6 _ rfl, zip_lookup fn_nd (i := 6) rfl rfl, .inl ⟨rfl, _, SqL.of e1⟩, _, rfl, A.x, CH, dx, _, _, rfl, upd_same, T.cl, T.na 0 _ rfl, zip_lookup fn_nd (i := 0) rfl rfl, A.co, ys, _, rfl, rfl, e1, l2, ?_⟩
    exact q1 z e _ (mv.trans (mv2.trans mv3)) J3
end
end TH
set_option Elab.async false
set_option linter.all false
set_option maxRecDepth 100000
set_option maxHeartbeats 4000000
namespace TH
open PySem PySem.Spec PyProof.Rows L2
abbrev cCall : Stmt := top 21
abbrev sCInit : Stmt := inClass cCall 0
abbrev sValue : Stmt := inClass cCall 1
abbrev sSrc : Stmt := inClass cCall 2
abbrev sSimple : Stmt := top 22
def SrcR (nn : Nat) : Src → Prop
  | .count => True
  | .n k => k < nn ∧ k < 4
def AmR (nn : Nat) : Am → Prop
  | .lit _ => True
  | .src t s _ => IntOk t ∧ SrcR nn s
def spCInit (CC : Addr) : Sp := fun vs H Q _ => ∃ (c dx wd nl : Addr) (k : Int), vs = [.ref c, .ref wd, .ref nl, .int k] ∧ H c = some (.ins CC dx []) ∧
  ∀ H', (∀ b o, b ≠ c → H b = some o → H' b = some o) → H' c = some (.ins CC dx (CN.zip [.ref wd, .ref nl, .int k])) → Q .non H'
/-- what the amounts hang on -/
structure CtxAt (CC : Addr) (H : Hp) (c nl : Addr) (ctx : Ctx) : Prop where
  ob : ∃ dx w, H c = some (.ins CC dx (CN.zip [w, .ref nl, .int ctx.count]))
  nums : H nl = some (.lst (ctx.nums.map V.int))
theorem CtxAt.same {CC : Addr} {H H' : Hp} {c nl : Addr} {ctx : Ctx} (I : CtxAt CC H c nl ctx) (s : Same H H') : CtxAt CC H' c nl ctx := let ⟨⟨dx, w, o⟩, n⟩ := I; ⟨⟨dx, w, s _ _ o⟩, s _ _ n⟩
theorem CallAt.ctx {K : PySem.W.Frag} {CC : Addr} {A : Adr} {H : Hp} {c wd nl : Addr} {W : List B} {ctx : Ctx} (I : CallAt K CC A H c wd nl W ctx) : CtxAt CC H c nl ctx := let ⟨dx, o⟩ := I.ob; ⟨⟨dx, _, o⟩, I.nums⟩
def spSrc (CC : Addr) : Sp := fun vs H Q _ => ∃ (c nl : Addr) (ctx : Ctx) (s : Src), vs = [.ref c, .str s.name] ∧ CtxAt CC H c nl ctx ∧ SrcR ctx.nums.length s ∧ Q (.int (s.val ctx)) H
def spValue (K : PySem.W.Frag) (CC : Addr) : Sp := fun vs H Q _ => ∃ (c nl : Addr) (ctx : Ctx) (v : V) (a : Am), vs = [.ref c, v] ∧ CtxAt CC H c nl ctx ∧ Tp K H (encA a) v ∧ AmR ctx.nums.length a ∧ (a.val ctx).natAbs ≤ 1000000 ∧ Q (.int (a.val ctx)) H
def effS (c : Ctx) (h : Hd) : B → Out
  | .go a _ => .ok (h.go (a.val c))
  | .turn a _ => .ok (h.turn (a.val c))
  | .ink a _ => .ok { h with ink := a.val c % 8 }
  | .pen d _ => .ok { h with down := d }
  | .mark k _ => .ok (h.mark k)
  | .back k _ => backO h (h.marks k)
  | _ => .deep
def SimpV (c : Ctx) (v : Int) : B → Prop
  | .go a _ => v = a.val c
  | .turn a _ => v = a.val c
  | .ink a _ => v = a.val c
  | .pen _ _ => v = 0
  | .mark k _ => v = k
  | .back k _ => v = k
  | _ => False
def spSimple (K : PySem.W.Frag) (CH cS cM : Addr) : Sp := fun vs H Q E => ∃ (A : Adr) (h : Hd) (b : B) (c : Ctx) (v : Int), vs = [.ref A.x, .str (hname b), .int v] ∧ HandAt K CH A H h 2 ∧ SimpV c v b ∧ Wish K CH cS cM A H Q E (effS c h b)
theorem src_count : ("count" : Str) = Src.name .count := rfl
theorem src_ne (k : Nat) (h : k < 4) : Src.name (.n k) ≠ "count" := by
  have : k = 0 ∨ k = 1 ∨ k = 2 ∨ k = 3 := by omega
  rcases this with rfl | rfl | rfl | rfl <;> decide +kernel
theorem src_int (k : Nat) (h : k < 4) : PySem.intText? (cutS (Src.name (.n k)) (some 1) none) = some (k : Int) ∧ (cutS (Src.name (.n k)) (some 1) none).length ≤ 640 ∧ (Src.name (.n k)).length ≤ 640 := by
  have : k = 0 ∨ k = 1 ∨ k = 2 ∨ k = 3 := by omega
  rcases this with rfl | rfl | rfl | rfl <;> decide +kernel
section
variable {P : Program} {w : World} {K : PySem.W.Frag} {mg : Str → Option Value} {base : Heap} {CH CC cS cM : Addr}
theorem sc_cinit : FnScope ["self", "words", "numbers", "count"] ["self", "words", "numbers", "count"] (defScope sCInit) := ⟨rfl, rfl, rfl, by decide +kernel, rfl, by decide +kernel, by decide +kernel⟩
theorem ok_cinit {f : Addr} {fd : FuncData} (F : Fun K "__init__" "Call.__init__" sCInit f fd) (T : ClsT K CC CN) : FnOk P w K mg base CX0 1 f fd ["self", "words", "numbers", "count"] (spCInit CC) := by
  refine F.ok sc_cinit (fun vs H Q E h => ?_) (fun cdv A outer s H vs Q E hr h => ?_)
  · obtain ⟨c, dx, wd, nl, k, rfl, _⟩ := h
    rfl
  obtain ⟨c, dx, wd, nl, k, rfl, hc, q⟩ := h
  refine ⟨_, (pss_cons (ps_fld (pv 0) (pv 1) rfl)
    (pss_cons (ps_fld (pv 0) (pv 2) rfl)
    (pss_one (ps_fld (pv 0) (pv 3) rfl)))), ?_⟩
  refine ⟨_, rfl, _, rfl, c, CC, dx, ([] : List Str).zip [], rfl, hc, T.cl, T.na 0 _ rfl, lt1000 (by decide), ?_⟩
  rw [zip_new (N := []) (by decide +kernel) rfl]
  refine ⟨_, rfl, _, rfl, c, CC, dx, _, rfl, upd_same, T.cl, T.na 1 _ rfl, lt1000 (by decide), ?_⟩
  rw [upd_upd, zip_new (by decide +kernel) rfl]
  refine ⟨_, rfl, _, rfl, c, CC, dx, _, rfl, upd_same, T.cl, T.na 2 _ rfl, lt1000 (by decide), ?_⟩
  rw [upd_upd, zip_new (by decide +kernel) rfl]
  exact q _ (fun b o nb e => by rw [upd_ne nb]; exact e) upd_same
theorem sc_src : FnScope ["self", "source"] ["self", "source"] (defScope sSrc) := ⟨rfl, rfl, rfl, by decide +kernel, rfl, by decide +kernel, by decide +kernel⟩
theorem ok_src {f : Addr} {fd : FuncData} (F : Fun K "source_value" "Call.source_value" sSrc f fd) (T : ClsT K CC CN) (B0 : Bl mg) : FnOk P w K mg base CX0 1 f fd ["self", "source"] (spSrc CC) := by
  refine F.ok sc_src (fun vs H Q E h => ?_) (fun cdv A outer s H vs Q E hr h => ?_)
  · obtain ⟨c, nl, ctx, s, rfl, _⟩ := h
    rfl
  obtain ⟨c, nl, ctx, sr, rfl, I, hs, q⟩ := h
  refine ⟨_, (pss_cons (ps_if (pt_cmpR op_eq (pv 1) pe_str (nomark _)) (pss_one (ps_ret (pe_fld (pv 0) rfl))) pss_nil)
    (pss_one (ps_ret (pe_ix ix_list (pe_fld (pv 0) rfl) (pe_callTy call_int_str (by rfl) B0.int (by decide +kernel) (pa_cons (pe_slice sl_str (pv 1) (po_some pe_int) po_none) pa_nil)) (fun _ _ => rfl))))), ?_⟩
  obtain ⟨⟨dx, wv, o1⟩, o2⟩ := I
  cases sr with
  | count =>
    refine ⟨_, rfl, rfl, _, rfl, ifs_eq (x := "count") ?_⟩
    exact ⟨_, rfl, c, CC, dx, _, _, rfl, o1, T.cl, T.na 2 _ rfl, zip_lookup cn_nd (i := 2) rfl rfl, q⟩
  | n k =>
    obtain ⟨h1, h2⟩ : k < ctx.nums.length ∧ k < 4 := hs
    obtain ⟨i1, i2, i3⟩ := src_int k h2
    refine ⟨_, rfl, rfl, _, rfl, ifs_ne (src_ne k h2) ?_⟩
    refine ⟨_, rfl, c, CC, dx, _, _, rfl, o1, T.cl, T.na 1 _ rfl, zip_lookup cn_nd (i := 1) rfl rfl, _, rfl, _, rfl, _, rfl, Nat.le_of_lt (small1000 (by omega)), _, (k : Int), rfl, i1, i2, nl, _, _, _, rfl, rfl, SqL.of o2, ?_, q⟩
    refine atI_nat ?_
    rw [List.getElem?_map, List.getElem?_eq_getElem h1]
    show some (V.int _) = some (V.int (ctx.nums.getD k 0))
    rw [List.getD_eq_getElem?_getD, List.getElem?_eq_getElem h1]
    rfl
theorem sc_value : FnScope ["self", "amount", "found", "times", "source", "more"] ["self", "amount"] (defScope sValue) := ⟨rfl, rfl, rfl, by decide +kernel, rfl, by decide +kernel, by decide +kernel⟩
theorem ok_value {f fS : Addr} {fd fdS : FuncData} {tk : Tok} (F : Fun K "value" "Call.value" sValue f fd) (T : ClsT K CC CN) (B0 : Bl mg) (gM : mg "MOST_AMOUNT" = some (.int 1000000 tk)) (DS : Dm P w K mg base CX0 1 CC "source_value" fS fdS ["self", "source"] (spSrc CC)) :
    FnOk P w K mg base CX0 2 f fd ["self", "amount"] (spValue K CC) := by
  refine F.ok sc_value (fun vs H Q E h => ?_) (fun cdv A outer s H vs Q E hr h => ?_)
  · obtain ⟨c, nl, ctx, v, a, rfl, _⟩ := h
    rfl
  obtain ⟨c, nl, ctx, v, a, rfl, I, ha, har, hb, q⟩ := h
  refine ⟨_, (pss_cons (ps_set (i := 2) sc_value.nd rfl (.inl rfl) (pv 1))
    (pss_cons (ps_if (pt_val (pe_callB call_isi (by rfl) B0.isi (by decide +kernel) (pa_cons (pv 1) (pa_cons (pe_bltn (v := .ty "tuple") (by rfl) B0.tup boot_tuple rfl) pa_nil)))) (pss_cons (ps_asg (pv 1) (pg_tup rfl (pgs_cons (pg_name (i := 3) sc_value.nd rfl (.inl rfl)) (pgs_cons (pg_name (i := 4) sc_value.nd rfl (.inl rfl)) (pgs_cons (pg_name (i := 5) sc_value.nd rfl (.inl rfl)) pgs_nil)))))
    (pss_one (ps_set (i := 2) sc_value.nd rfl (.inl rfl) (pe_op op_add (pe_op op_mul (pv 3) (dm_call (pv 0) DS hr (by omega) pass0 (pa_cons (pv 4) pa_nil))) (pv 5))))) pss_nil)
    (pss_cons (ps_if (pt_cmpR op_gt (pe_callB call_abs (by rfl) B0.abs (by decide +kernel) (pa_cons (pv 2) pa_nil)) (pe_glob (v := .int 1000000) rfl gM ⟨_, rfl⟩) (nomark _)) (pss_one ps_never) pss_nil)
    (pss_one (ps_ret (pv 2)))))), ?_⟩
  have nb : ∀ x : Int, x.natAbs ≤ 1000000 → ¬ (1000000 : Int) < (if x < 0 then -x else x) := by
    intro x hx
    split <;> omega
  cases a with
  | lit i =>
    obtain rfl := Tp.i ha
    refine ⟨_, rfl, _, rfl, .int i, .ty "tuple", _, _, false, rfl, .ty _, .base (.int i), kit_ty (by decide +kernel), _, rfl, iteF ?_⟩
    refine ⟨_, rfl, _, rfl, _, _, rfl, rfl, _, rfl, ifd (fun c => absurd c (nb _ hb)) (fun _ => ?_)⟩
    exact ⟨_, rfl, q⟩
  | src t sr m =>
    obtain ⟨pa, x1, x2, x3, rfl, hs, h1, h2, h3⟩ := tp_three ha
    obtain rfl := h1.i
    obtain rfl := h2.s
    obtain rfl := h3.i
    obtain ⟨dx, wv, o1⟩ := I.ob
    refine ⟨_, rfl, _, rfl, .ref pa, .ty "tuple", _, _, true, rfl, .ty _, tyx_tup hs, kit_ty (by decide +kernel), _, rfl, iteT ?_⟩
    refine ⟨_, rfl, pa, _, rfl, hs, rfl, _, _, rfl, _, _, rfl, _, _, rfl, rfl, ?_⟩
    refine ⟨_, rfl, _, rfl, c, dx, _, rfl, o1, zip_none (by decide +kernel), _, rfl, c, nl, ctx, sr, rfl, I, har.2, ?_⟩
    refine ⟨_, _, rfl, rfl, .inl har.1, _, rfl, _, _, rfl, rfl, ?_⟩
    refine ⟨_, rfl, _, rfl, _, _, rfl, rfl, _, rfl, ifd (fun c => absurd c (nb _ hb)) (fun _ => ?_)⟩
    exact ⟨_, rfl, q⟩
theorem sc_simple : FnScope ["hand", "verb", "value"] ["hand", "verb", "value"] (defScope sSimple) := ⟨rfl, rfl, rfl, by decide +kernel, rfl, by decide +kernel, by decide +kernel⟩
theorem ok_simple {f fG fT fB : Addr} {fd fdG fdT fdB : FuncData} (F : Fun K "do_simple" "do_simple" sSimple f fd) (T : ClsT K CH FN) (DG : Dm P w K mg base CX0 3 CH "go" fG fdG ["self", "steps"] (spGo K CH))
    (DT : Dm P w K mg base CX0 1 CH "turn" fT fdT ["self", "eighths"] (spTurn K CH)) (DB : Dm P w K mg base (L2.CX P w) 2 CH "back" fB fdB ["self", "number"] (spBack K CH cM)) :
    FnOk P w K mg base (L2.CX P w) 4 f fd ["hand", "verb", "value"] (spSimple K CH cS cM) := by
  refine F.okX sc_simple (fun vs H Q E h => ?_) (fun cdv A outer s H vs Q E hr h => ?_)
  · obtain ⟨A, h, b, c, v, rfl, _⟩ := h
    rfl
  obtain ⟨A, h, b, c, v, rfl, I, sv, wish⟩ := h
  have hu := hu_of hr
  refine ⟨_, (pss_one (ps_if (pt_cmpR op_eq (pv 1) pe_str (nomark _)) (pss_one (ps_expr (dm_call (pv 0) DG hr (by omega) pass0 (pa_cons (pv 2) pa_nil)))) (pss_one (ps_if (pt_cmpR op_eq (pv 1) pe_str (nomark _)) (pss_one (ps_expr (dm_call (pv 0) DT hr (by omega) pass0 (pa_cons (pv 2) pa_nil)))) (pss_one (ps_if (pt_cmpR op_eq (pv 1) pe_str (nomark _)) (pss_one (ps_fld (pv 0) (pe_op op_mod (pv 2) pe_int) rfl)) (pss_one (ps_if (pt_cmpR op_eq (pv 1) pe_str (nomark _)) (pss_one (ps_fld (pv 0) pe_bl rfl)) (pss_one (ps_if (pt_cmpR op_eq (pv 1) pe_str (nomark _)) (pss_one (ps_fld (pv 0) pe_bl rfl)) (pss_one (ps_if (pt_cmpR op_eq (pv 1) pe_str (nomark _)) (pss_one (ps_dput hu (pe_fld (pv 0) rfl) (pv 2) (pe_tup (pa_cons (pe_fld (pv 0) rfl) (pa_cons (pe_fld (pv 0) rfl) pa_nil))) rfl)) (pss_one (ps_expr (dm_call (pv 0) DB hr (by omega) (passes_call (takes_of rfl rfl rfl rfl) (fun _ _ _ _ z => z)) (pa_cons (pv 2) pa_nil)))))))))))))))), ?_⟩
  obtain ⟨dx, sp, o1, o2⟩ := I.ob
  cases b with
  | nil => exact sv.elim
  | again a b r => exact sv.elim
  | ite a b e r => exact sv.elim
  | call j as r => exact sv.elim
  | go a r =>
    have sv : v = a.val c := sv
    subst sv
    refine ⟨_, rfl, rfl, _, rfl, ifs_eq (x := "go") ?_⟩
    exact ⟨_, rfl, A.x, dx, _, rfl, o1, zip_none (by decide +kernel), _, rfl, A, h, 0, _, rfl, I, fun H' m J => wish H' m J⟩
  | turn a r =>
    have sv : v = a.val c := sv
    subst sv
    refine ⟨_, rfl, rfl, _, rfl, ifs_ne (x := "turn") (by decide +kernel) ?_⟩
    refine ⟨_, rfl, rfl, _, rfl, ifs_eq (x := "turn") ?_⟩
    exact ⟨_, rfl, A.x, dx, _, rfl, o1, zip_none (by decide +kernel), _, rfl, A, h, 0, _, rfl, I.less (by omega), fun H' m J => wish H' m J⟩
  | ink a r =>
    have sv : v = a.val c := sv
    subst sv
    refine ⟨_, rfl, rfl, _, rfl, ifs_ne (x := "ink") (by decide +kernel) ?_⟩
    refine ⟨_, rfl, rfl, _, rfl, ifs_ne (x := "ink") (by decide +kernel) ?_⟩
    refine ⟨_, rfl, rfl, _, rfl, ifs_eq (x := "ink") ?_⟩
    refine ⟨_, rfl, _, _, rfl, rfl, (by show (0 : Int) < 8; decide), _, rfl, A.x, CH, dx, _, rfl, o1, T.cl, T.na 3 _ rfl, lt1000 (by decide), ?_⟩
    rw [zip_put fn_nd (i := 3) rfl rfl]
    obtain ⟨J, mv⟩ := I.set (h2 := { h with ink := a.val c % 8 }) (u' := 0) o1 o2 I.head (by show 3 * h.rest + 0 ≤ _; omega) rfl rfl rfl
    exact wish _ mv J
  | pen d r =>
    cases d with
    | false =>
      refine ⟨_, rfl, rfl, _, rfl, ifs_ne (x := "up") (by decide +kernel) ?_⟩
      refine ⟨_, rfl, rfl, _, rfl, ifs_ne (x := "up") (by decide +kernel) ?_⟩
      refine ⟨_, rfl, rfl, _, rfl, ifs_ne (x := "up") (by decide +kernel) ?_⟩
      refine ⟨_, rfl, rfl, _, rfl, ifs_eq (x := "up") ?_⟩
      refine ⟨_, rfl, A.x, CH, dx, _, rfl, o1, T.cl, T.na 2 _ rfl, lt1000 (by decide), ?_⟩
      rw [zip_put fn_nd (i := 2) rfl rfl]
      obtain ⟨J, mv⟩ := I.set (h2 := { h with down := false }) (u' := 0) o1 o2 I.head (by show 3 * h.rest + 0 ≤ _; omega) rfl rfl rfl
      exact wish _ mv J
    | true =>
      refine ⟨_, rfl, rfl, _, rfl, ifs_ne (x := "down") (by decide +kernel) ?_⟩
      refine ⟨_, rfl, rfl, _, rfl, ifs_ne (x := "down") (by decide +kernel) ?_⟩
      refine ⟨_, rfl, rfl, _, rfl, ifs_ne (x := "down") (by decide +kernel) ?_⟩
      refine ⟨_, rfl, rfl, _, rfl, ifs_ne (x := "down") (by decide +kernel) ?_⟩
      refine ⟨_, rfl, rfl, _, rfl, ifs_eq (x := "down") ?_⟩
      refine ⟨_, rfl, A.x, CH, dx, _, rfl, o1, T.cl, T.na 2 _ rfl, lt1000 (by decide), ?_⟩
      rw [zip_put fn_nd (i := 2) rfl rfl]
      obtain ⟨J, mv⟩ := I.set (h2 := { h with down := true }) (u' := 0) o1 o2 I.head (by show 3 * h.rest + 0 ≤ _; omega) rfl rfl rfl
      exact wish _ mv J
  | mark k r =>
    have sv : v = k := sv
    subst sv
    obtain ⟨kvs, m1, _, _⟩ := I.marks
    refine ⟨_, rfl, rfl, _, rfl, ifs_ne (x := "mark") (by decide +kernel) ?_⟩
    refine ⟨_, rfl, rfl, _, rfl, ifs_ne (x := "mark") (by decide +kernel) ?_⟩
    refine ⟨_, rfl, rfl, _, rfl, ifs_ne (x := "mark") (by decide +kernel) ?_⟩
    refine ⟨_, rfl, rfl, _, rfl, ifs_ne (x := "mark") (by decide +kernel) ?_⟩
    refine ⟨_, rfl, rfl, _, rfl, ifs_ne (x := "mark") (by decide +kernel) ?_⟩
    refine ⟨_, rfl, rfl, _, rfl, ifs_eq (x := "mark") ?_⟩
    refine ⟨_, rfl, A.x, CH, dx, _, _, rfl, o1, T.cl, T.na 0 _ rfl, zip_lookup fn_nd (i := 0) rfl rfl, _, rfl, A.x, CH, dx, _, _, rfl, o1, T.cl, T.na 1 _ rfl, zip_lookup fn_nd (i := 1) rfl rfl, len2, fun t ht => ?_⟩
    have s1 := same_new ht (.tup [sp, V.int h.head])
    have I1 := I.same s1
    have o1' := s1 _ _ o1
    have m1' := s1 _ _ m1
    have hv : Tp K (upd H t (.tup [sp, V.int h.head])) (encM (h.spot, h.head)) (.ref t) := tp_tup sqt_new (tpa_cons (Tp.mono (Tups.same s1) _ _ o2) (tpa_cons tp_int tpa_nil))
    obtain ⟨J, mv, l⟩ := I1.marks_add (k := v) m1' hv
    exact ⟨_, rfl, A.x, CH, dx, _, _, rfl, o1', T.cl, T.na 4 _ rfl, zip_lookup fn_nd (i := 4) rfl rfl, _, rfl, A.ms, _, rfl, DPut.k (k := Sum.inl v) m1' l, wish _ ((Mv.same s1).trans mv) (J.less (by omega))⟩
  | back k r =>
    have sv : v = k := sv
    subst sv
    refine ⟨_, rfl, rfl, _, rfl, ifs_ne (x := "back") (by decide +kernel) ?_⟩
    refine ⟨_, rfl, rfl, _, rfl, ifs_ne (x := "back") (by decide +kernel) ?_⟩
    refine ⟨_, rfl, rfl, _, rfl, ifs_ne (x := "back") (by decide +kernel) ?_⟩
    refine ⟨_, rfl, rfl, _, rfl, ifs_ne (x := "back") (by decide +kernel) ?_⟩
    refine ⟨_, rfl, rfl, _, rfl, ifs_ne (x := "back") (by decide +kernel) ?_⟩
    refine ⟨_, rfl, rfl, _, rfl, ifs_ne (x := "back") (by decide +kernel) ?_⟩
    have wish : Wish K CH cS cM A H Q E (backO h (h.marks v)) := wish
    refine ⟨_, rfl, A.x, dx, _, rfl, o1, zip_none (by decide +kernel), _, rfl, A, h, 0, v, rfl, I.less (by omega), fun e => ?_, fun q e H' m J => ?_⟩
    · rw [e] at wish
      exact wish H (Mv.refl _ _) (I.less (by omega))
    · rw [e] at wish
      exact wish H' m J
end
end TH
set_option Elab.async false
set_option linter.all false
set_option maxRecDepth 100000
set_option maxHeartbeats 4000000
namespace TH
open PySem PySem.Spec PyProof.Rows L2
abbrev sAgain : Stmt := top 23
abbrev sWord : Stmt := top 24
abbrev sStmt : Stmt := top 25
abbrev sBody : Stmt := top 26
def BRun (ar : List Nat) (nn : Nat) : B → Prop
  | .nil => True
  | .go a r => AmR nn a ∧ BRun ar nn r
  | .turn a r => AmR nn a ∧ BRun ar nn r
  | .ink a r => AmR nn a ∧ BRun ar nn r
  | .pen _ r => BRun ar nn r
  | .mark k r => (0 ≤ k ∧ k ≤ 9) ∧ BRun ar nn r
  | .back k r => (0 ≤ k ∧ k ≤ 9) ∧ BRun ar nn r
  | .again a b r => (AmR nn a ∧ BRun ar nn b) ∧ BRun ar nn r
  | .ite a b e r => (AmR nn a ∧ BRun ar nn b ∧ BRun ar nn e) ∧ BRun ar nn r
  | .call j as r => (j < ar.length ∧ as.length = ar.getD j 0 ∧ as.length ≤ 4 ∧ ∀ a ∈ as, AmR nn a) ∧ BRun ar nn r
theorem BRun.tail {ar : List Nat} {nn : Nat} {b : B} (h : BRun ar nn b) : BRun ar nn b.tail := by
  cases b <;> first | exact h | exact h.2
structure WRun (ar : List Nat) (W : List B) : Prop where
  len : ar.length = W.length
  few : W.length ≤ 6
  ok : ∀ j b, W[j]? = some b → BRun ar (ar.getD j 0) b
/-- what a piece of the run is called with -/
structure RunAt (K : PySem.W.Frag) (CH CC : Addr) (A : Adr) (H : Hp) (h : Hd) (c wd nl : Addr) (W : List B) (ctx : Ctx) (ar : List Nat) : Prop where
  hand : HandAt K CH A H h 0
  call : CallAt K CC A H c wd nl W ctx
  ws : WRun ar W
def spAgain (K : PySem.W.Frag) (CH CC cS cM : Addr) (D : Nat) : Sp := fun vs H Q E => ∃ (A : Adr) (h : Hd) (ps c wd nl : Addr) (W : List B) (ctx : Ctx) (ar : List Nat) (a : Am) (b r : B), vs = [.ref A.x, .ref ps, .ref c] ∧
  RunAt K CH CC A H h c wd nl W ctx ar ∧ Tp K H (encH (.again a b r)) (.ref ps) ∧ AmR ctx.nums.length a ∧ BRun ar ctx.nums.length b ∧
  Wish K CH cS cM A H Q E (chk (a.val ctx) (rounds (fun k h => run W D b ⟨ctx.nums, k⟩ h) (a.val ctx).toNat 0 h))
def spWord (K : PySem.W.Frag) (CH CC cS cM : Addr) (D : Nat) : Sp := fun vs H Q E => ∃ (A : Adr) (h : Hd) (ps c wd nl : Addr) (W : List B) (ctx : Ctx) (ar : List Nat) (j : Nat) (as : List Am) (r : B), vs = [.ref A.x, .ref ps, .ref c] ∧
  RunAt K CH CC A H h c wd nl W ctx ar ∧ Tp K H (encH (.call j as r)) (.ref ps) ∧ (j < ar.length ∧ as.length = ar.getD j 0 ∧ as.length ≤ 4 ∧ ∀ a ∈ as, AmR ctx.nums.length a) ∧
  Wish K CH cS cM A H Q E (if as.any (fun a => decide ((a.val ctx).natAbs > 1000000)) = true then .great else run W D (W.getD j .nil) ⟨as.map (Am.val ctx), 0⟩ h)
def spStmt (K : PySem.W.Frag) (CH CC cS cM : Addr) (D : Nat) : Sp := fun vs H Q E => ∃ (A : Adr) (h : Hd) (ps c wd nl : Addr) (W : List B) (ctx : Ctx) (ar : List Nat) (b : B), vs = [.ref A.x, .ref ps, .ref c] ∧ b ≠ .nil ∧
  RunAt K CH CC A H h c wd nl W ctx ar ∧ Tp K H (encH b) (.ref ps) ∧ BRun ar ctx.nums.length b ∧ Wish K CH cS cM A H Q E (eff W (run W D) ctx h b)
def spBody (K : PySem.W.Frag) (CH CC cS cM : Addr) (D : Nat) : Sp := fun vs H Q E => ∃ (A : Adr) (h : Hd) (v : V) (c wd nl : Addr) (W : List B) (ctx : Ctx) (ar : List Nat) (b : B), vs = [.ref A.x, v, .ref c] ∧
  RunAt K CH CC A H h c wd nl W ctx ar ∧ Tp K H (.tuple (encB b)) v ∧ BRun ar ctx.nums.length b ∧ Wish K CH cS cM A H Q E (run W D b ctx h)
theorem HandAt.notS {K : PySem.W.Frag} {CH : Addr} {A : Adr} {H : Hp} {h : Hd} {u : Nat} (I : HandAt K CH A H h u) {c : Addr} (n : H c = none) : ¬ A.S c := by
  obtain ⟨⟨dx, sp, o1, _⟩, _, ⟨kvs, m1, _⟩, ⟨xs, s1, _⟩, ⟨ys, c1, _⟩, ⟨zs, p1, _⟩, _⟩ := I
  intro z
  rcases z with rfl | rfl | rfl | rfl | rfl
  · rw [o1] at n; cases n
  · rw [m1] at n; cases n
  · rw [s1] at n; cases n
  · rw [c1] at n; cases n
  · rw [p1] at n; cases n
theorem Wish.ok0 {K : PySem.W.Frag} {CH cS cM : Addr} {A : Adr} {H : Hp} {Q : VK} {E : XK} {h : Hd} (w : Wish K CH cS cM A H Q E (.ok h)) (I : HandAt K CH A H h 0) : Q .non H := w H (Mv.refl _ _) I
/-- an instance that is made and filled leaves the rest as it is -/
theorem same_made {H H' : Hp} {x dx C : Addr} (hx : H x = none) (hd : H dx = none) (k : ∀ b o, b ≠ x → (upd (upd H dx (.own x)) x (.ins C dx [])) b = some o → H' b = some o) : Same H H' := fun b o e =>
  k b o (ne_of_none e hx) (by rw [upd_ne (ne_of_none e hx), upd_ne (ne_of_none e hd)]; exact e)
section
variable {P : Program} {w : World} {K : PySem.W.Frag} {mg : Str → Option Value} {base : Heap} {CH CC cS cM : Addr}
theorem sc_again : FnScope ["hand", "statement", "call", "count"] ["hand", "statement", "call"] (defScope sAgain) := ⟨rfl, rfl, rfl, by decide +kernel, rfl, by decide +kernel, by decide +kernel⟩
theorem ok_again {D : Nat} {f fD fV fB fI : Addr} {fd fdD fdV fdB fdI : FuncData} (F : Fun K "do_again" "do_again" sAgain f fd) (B0 : Bl mg) (TC : ClsT K CC CN) (MC : Mk K CC fI) (gC : mg "Call" = some (.ref CC))
    (DI : FnOk P w K mg base CX0 1 fI fdI ["self", "words", "numbers", "count"] (spCInit CC)) (bI : Binds K fdI ["self", "words", "numbers", "count"] [])
    (DD : Dm P w K mg base (L2.CX P w) 2 CH "deed" fD fdD ["self"] (spDeed K CH cS)) (DV : Dm P w K mg base CX0 2 CC "value" fV fdV ["self", "amount"] (spValue K CC))
    (DB : Dn P w K mg base (L2.CX P w) (3 * D + 6) "do_body" fB fdB ["hand", "body", "call"] (spBody K CH CC cS cM D)) : FnOk P w K mg base (L2.CX P w) (3 * D + 7) f fd ["hand", "statement", "call"] (spAgain K CH CC cS cM D) := by
  refine F.okX sc_again (fun vs H Q E h => ?_) (fun cdv A0 outer s H vs Q E hr h => ?_)
  · obtain ⟨A, h, ps, c, wd, nl, W, ctx, ar, a, b, r, rfl, _⟩ := h
    rfl
  obtain ⟨A, h, ps, c, wd, nl, W, ctx, ar, a, b, r, rfl, R, hp, har, hbr, wish⟩ := h
  refine ⟨_, (pss_one (ps_for (passes_of rfl) rfl (pi_range1 rfl B0.range (pa_cons (pe_callB (call_max2 rfl) (by rfl) B0.max (by decide +kernel) (pa_cons pe_int (pa_cons (dm_call (pv 2) DV hr (by omega) pass0 (pa_cons (pe_ix ix_tup (pv 1) pe_int (fun _ _ => rfl)) pa_nil)) pa_nil))) pa_nil)) (pg_name (i := 3) sc_again.nd rfl (.inl rfl)) (pss_cons (ps_expr (dm_call0 (pv 0) DD hr (by omega) (passes_call (takes_of rfl rfl rfl rfl) (fun _ _ _ _ z => z))))
    (pss_one (ps_expr (dn_call DB hr (by omega) rfl (passes_call (takes_of rfl rfl rfl rfl) (fun _ _ _ _ z => z)) (pa_cons (pv 0) (pa_cons (pe_ix ix_tup (pv 1) pe_int (fun _ _ => rfl)) (pa_cons (pe_make MC DI (hr.mono (by omega)) rfl gC bI .nil pass0 (pa_cons (pe_fld (pv 2) rfl) (pa_cons (pe_fld (pv 2) rfl) (pa_cons (pv 3) pa_nil)))) pa_nil))))))))), ?_⟩
  obtain ⟨ps', y1, y2, y3, e1, hs, h1, h2, h3⟩ := tp_three hp
  obtain rfl := V.ref.inj e1
  obtain rfl := h1.s
  obtain ⟨⟨dx, o1⟩, _, _, _⟩ := R.call
  have hb : ¬ (a.val ctx).natAbs > 1000000 := by
    intro z
    unfold chk at wish
    rw [if_pos z] at wish
    exact wish
  rw [chk_ok hb] at wish
  refine ⟨_, rfl, c, dx, _, rfl, o1, zip_none (by decide +kernel), _, rfl, ps, _, _, _, rfl, rfl, hs, atI_nat (j := 1) rfl, c, nl, ctx, y2, a, rfl, R.call.ctx, h2, har, by omega, 0, a.val ctx, rfl, ?_⟩
  have en : (if a.val ctx > 0 then a.val ctx else 0).toNat = (a.val ctx).toNat := by
    split <;> omega
  refine ⟨_, rfl, by split <;> omega, by split <;> omega, for_range (lo := 0) (n := (if a.val ctx > 0 then a.val ctx else 0).toNat) (fun i σ H2 => ∃ (co : Option V) (h2 : Hd), σ = [some (.ref A.x), some (.ref ps), some (.ref c), co] ∧ Mv A H H2 ∧ HandAt K CH A H2 h2 0 ∧
      Wish K CH cS cM A H2 Q E (rounds (fun k h => run W D b ⟨ctx.nums, k⟩ h) ((a.val ctx).toNat - i) i h2))
    ⟨none, h, rfl, Mv.refl _ _, R.hand, wish⟩ ?_ ?_⟩
  · rintro i σ H2 hi ⟨co, h2', rfl, m2, I2, w2⟩
    rw [en] at hi
    obtain ⟨m, em⟩ : ∃ m, (a.val ctx).toNat - i = m + 1 := ⟨(a.val ctx).toNat - i - 1, by omega⟩
    have em2 : (a.val ctx).toNat - (i + 1) = m := by omega
    rw [em] at w2
    have w2 : Wish K CH cS cM A H2 Q E ((deed h2' fun h => run W D b ⟨ctx.nums, (i : Int)⟩ h).bind (rounds (fun k h => run W D b ⟨ctx.nums, k⟩ h) m ((i : Int) + 1))) := w2
    obtain ⟨dxh, sp, oh, _⟩ := I2.ob
    refine ⟨_, rfl, A.x, dxh, _, rfl, oh, zip_none (by decide +kernel), A, h2', rfl, I2, fun e0 => ?_, fun e0 H3 m3 I3 => ?_⟩
    · unfold deed at w2
      rw [if_pos e0] at w2
      exact w2 H2 (Mv.refl _ _) I2
    · unfold deed at w2
      rw [if_neg e0] at w2
      have w3 := w2.mv m3
      have C3 := (R.call.mv m2).mv m3
      have t3 := (m2.trans m3).tups
      obtain ⟨⟨dxc, oc⟩, wc, nc, ap⟩ := id C3
      refine ⟨_, rfl, _, rfl, ps, _, _, _, rfl, rfl, t3.sq hs, atI_nat (j := 2) rfl, _, rfl, c, CC, dxc, _, _, rfl, oc, TC.cl, TC.na 0 _ rfl, zip_lookup cn_nd (i := 0) rfl rfl, _, rfl, c, CC, dxc, _, _, rfl, oc, TC.cl, TC.na 1 _ rfl, zip_lookup cn_nd (i := 1) rfl rfl, _, rfl, fun x dn hx hdn ne => ?_⟩
      refine ⟨x, dn, wd, nl, 0 + (i : Int), rfl, upd_same, fun H4 k4 o4 => ⟨rfl, ?_⟩⟩
      have s4 : Same H3 H4 := same_made hx hdn k4
      have I4 := (I3.less (Nat.zero_le 3)).same s4
      have C4 : CallAt K CC A H4 x wd nl W ⟨ctx.nums, (i : Int)⟩ := by
        have q := C3.mv (Mv.same s4)
        refine ⟨⟨dn, by rw [Int.zero_add] at o4; exact o4⟩, q.words, q.nums, I3.notS hx, ap.2⟩
      refine ⟨A, _, y3, x, wd, nl, W, ⟨ctx.nums, (i : Int)⟩, ar, b, rfl, ⟨I4, C4, R.ws⟩, Tp.mono (t3.trans (Tups.same s4)) _ _ h3, hbr, ?_⟩
      refine Wish.bind (w3.mv (Mv.same s4)) fun h5 H5 m5 I5 w5 => ?_
      refine ⟨_, h5, rfl, m2.trans (m3.trans ((Mv.same s4).trans m5)), I5, ?_⟩
      rw [em2]
      exact w5
  · rintro σ H2 ⟨co, h2', rfl, m2, I2, w2⟩
    have e0 : (a.val ctx).toNat - (if a.val ctx > 0 then a.val ctx else 0).toNat = 0 := by omega
    rw [e0] at w2
    exact w2 H2 (Mv.refl _ _) I2
end
end TH
set_option Elab.async false
set_option linter.all false
set_option maxRecDepth 100000
set_option maxHeartbeats 4000000
namespace TH
open PySem PySem.Spec PyProof.Rows L2
abbrev nWord : List Str := ["hand", "statement", "call", "numbers", "amount"]
section
variable {P : Program} {w : World} {K : PySem.W.Frag} {mg : Str → Option Value} {base : Heap} {CH CC cS cM : Addr}
theorem tpa_map_get {K : PySem.W.Frag} {H : Hp} : ∀ {as : List Am} {xs : List V}, TpAll K H (as.map encA) xs → ∀ {i : Nat} {x : V}, xs[i]? = some x → ∃ a, as[i]? = some a ∧ Tp K H (encA a) x
  | [], xs, h, i, x, e => by rw [TpAll.n (show TpAll K H [] xs from h)] at e; cases i <;> cases e
  | a :: r, xs, h, i, x, e => by
    obtain ⟨y, ys, rfl, h1, t⟩ := TpAll.c (show TpAll K H (encA a :: r.map encA) xs from h)
    cases i with
    | zero => cases e; exact ⟨a, rfl, h1⟩
    | succ i => exact tpa_map_get t (i := i) e
theorem take_more {α : Type} : ∀ {l : List α} {i : Nat} {x : α}, l[i]? = some x → l.take (i + 1) = l.take i ++ [x]
  | [], i, x, h => by simp at h
  | a :: l, 0, x, h => by
    have e : a = x := Option.some.inj h
    subst e
    rfl
  | a :: l, i + 1, x, h => by
    have ih := take_more (l := l) (i := i) (x := x) h
    show a :: l.take (i + 1) = a :: l.take i ++ [x]
    rw [ih]
    rfl
theorem sc_word : FnScope nWord ["hand", "statement", "call"] (defScope sWord) := ⟨rfl, rfl, rfl, by decide +kernel, rfl, by decide +kernel, by decide +kernel⟩
theorem ok_word {D : Nat} {f fV fB fI : Addr} {fd fdV fdB fdI : FuncData} (F : Fun K "do_word" "do_word" sWord f fd) (TC : ClsT K CC CN) (MC : Mk K CC fI) (gC : mg "Call" = some (.ref CC))
    (DI : FnOk P w K mg base CX0 1 fI fdI ["self", "words", "numbers", "count"] (spCInit CC)) (bI : Binds K fdI ["self", "words", "numbers", "count"] [])
    (DV : Dm P w K mg base CX0 2 CC "value" fV fdV ["self", "amount"] (spValue K CC))
    (DB : Dn P w K mg base (L2.CX P w) (3 * D + 6) "do_body" fB fdB ["hand", "body", "call"] (spBody K CH CC cS cM D)) : FnOk P w K mg base (L2.CX P w) (3 * D + 7) f fd ["hand", "statement", "call"] (spWord K CH CC cS cM D) := by
  refine F.okX sc_word (fun vs H Q E h => ?_) (fun cdv A0 outer s H vs Q E hr h => ?_)
  · obtain ⟨A, h, ps, c, wd, nl, W, ctx, ar, j, as, r, rfl, _⟩ := h
    rfl
  obtain ⟨A, h, ps, c, wd, nl, W, ctx, ar, j, as, r, rfl, R, hp, ⟨hj, hal, ha4, har⟩, wish⟩ := h
  have hu := hu_of hr
  refine ⟨_, (pss_cons (ps_setLc (i := 3) (own := [("amount", 4)]) (g := (gName 4)) (by rfl) sc_word.nd rfl rfl (sw_true rfl rfl rfl (by decide +kernel)) (pi_tup (pe_ix ix_tup (pv 1) pe_int (fun _ _ => rfl))) (blkOk_by (N := nWord) (sc := defScope sWord) (by decide +kernel)) (fun _ _ _ _ _ => by exact (pg_name (i := 4) sc_word.nd rfl (.inl rfl))) (fun _ _ _ _ _ => pts_nil) (fun _ _ _ _ _ => by exact (dm_call (pv 2) DV hr (by omega) pass0 (pa_cons (pv 4) pa_nil))))
    (pss_one (ps_expr (dn_call DB hr (by omega) rfl (passes_call (takes_of rfl rfl rfl rfl) (fun _ _ _ _ z => z)) (pa_cons (pv 0) (pa_cons (pe_dget hu (pe_fld (pv 2) rfl) (pe_ix ix_tup (pv 1) pe_int (fun _ _ => rfl)) (fun _ _ => rfl)) (pa_cons (pe_make MC DI (hr.mono (by omega)) rfl gC bI .nil pass0 (pa_cons (pe_fld (pv 2) rfl) (pa_cons (pv 3) (pa_cons pe_int pa_nil)))) pa_nil))))))), ?_⟩
  obtain ⟨ps', y1, y2, y3, e1, hs, h1, h2, h3⟩ := tp_three hp
  obtain rfl := V.ref.inj e1
  obtain rfl := h1.s
  obtain rfl := h2.s
  obtain ⟨pa, xa, rfl, hsa, hxa⟩ := Tp.t h3
  have ng : ¬ (as.any fun a => decide ((a.val ctx).natAbs > 1000000)) = true := by
    intro z
    rw [if_pos z] at wish
    exact wish
  rw [if_neg ng] at wish
  have small : ∀ a ∈ as, (a.val ctx).natAbs ≤ 1000000 := fun a ha => by
    by_cases z : (a.val ctx).natAbs > 1000000
    · exact absurd (List.any_eq_true.mpr ⟨a, ha, decide_eq_true z⟩) ng
    · omega
  have hla : xa.length ≤ 4 := by
    have := hxa.len
    rw [List.length_map] at this
    omega
  refine ⟨_, rfl, ps, _, _, _, rfl, rfl, hs, atI_nat (j := 2) rfl, pa, rfl, ⟨_, hsa⟩, fun L hL => lc_tup (K := K) (a := pa) (xs := xa) (fun i H2 => Same H H2 ∧ H2 L = some (.lst ((as.take i).map fun a => V.int (a.val ctx))))
    ⟨same_new hL _, upd_same⟩ (fun i H2 _ ⟨s2, _⟩ => (Tups.same s2).sq hsa) ?_ ?_⟩
  · rintro i x H2 hi ⟨s2, hl⟩
    have hil : i < xa.length := (List.getElem?_eq_some_iff.mp hi).1
    obtain ⟨a, ea, hax⟩ := tpa_map_get hxa hi
    have am := List.mem_of_getElem? ea
    have C2 := R.call.mv (Mv.same s2)
    obtain ⟨dxc, oc⟩ := C2.ob
    refine ⟨rfl, _, rfl, c, dxc, _, rfl, oc, zip_none (by decide +kernel), _, rfl, c, nl, ctx, x, a, rfl, C2.ctx, Tp.mono (Tups.same s2) _ _ hax, har a am, small a am, ?_⟩
    refine ⟨_, hl, ?_, fun b o e => ?_, ?_⟩
    · rw [List.length_map, List.length_take]
      exact small1000 (by omega)
    · rw [upd_ne (ne_of_none e hL)]
      exact s2 _ _ e
    · rw [upd_same, take_more ea, List.map_append]
      rfl
  · rintro H2 ⟨s2, hl⟩
    have el : xa.length = as.length := by
      have := hxa.len
      rw [List.length_map] at this
      exact this
    rw [el, List.take_length] at hl
    have hl2 : H2 L = some (.lst ((as.map (Am.val ctx)).map V.int)) := by
      rw [hl, List.map_map]
      rfl
    have t2 := Tups.same s2
    have C2 := R.call.mv (Mv.same s2)
    obtain ⟨⟨dxc, oc⟩, ⟨kvs, wk, wv⟩, nc, ap⟩ := id C2
    have I2 := R.hand.same s2
    have hjW : j < W.length := by have := R.ws.len; omega
    have ej : W[j]? = some W[j] := List.getElem?_eq_getElem hjW
    obtain ⟨bv, eb, hbv⟩ := wv j _ ej
    have eD : W.getD j .nil = W[j] := by
      rw [List.getD_eq_getElem?_getD, ej]
      rfl
    rw [eD] at wish
    refine ⟨_, rfl, _, rfl, c, CC, dxc, _, _, rfl, oc, TC.cl, TC.na 0 _ rfl, zip_lookup cn_nd (i := 0) rfl rfl, _, rfl, ps, _, _, _, rfl, rfl, t2.sq hs, atI_nat (j := 1) rfl, wd, bv, rfl, (by rw [← eb]; exact DGet.k (k := Sum.inr (wname j)) wk), ?_⟩
    refine ⟨_, rfl, c, CC, dxc, _, _, rfl, oc, TC.cl, TC.na 0 _ rfl, zip_lookup cn_nd (i := 0) rfl rfl, _, rfl, fun x dn hx hdn ne => ?_⟩
    refine ⟨x, dn, wd, L, 0, rfl, upd_same, fun H4 k4 o4 => ⟨rfl, ?_⟩⟩
    have s4 : Same H2 H4 := same_made hx hdn k4
    have I4 := I2.same s4
    have C4 : CallAt K CC A H4 x wd L W ⟨as.map (Am.val ctx), 0⟩ := by
      have q := C2.mv (Mv.same s4)
      exact ⟨⟨dn, o4⟩, q.words, s4 _ _ hl2, I2.notS hx, ap.2.1, R.hand.notS hL⟩
    have hb := R.ws.ok j _ ej
    refine ⟨A, h, bv, x, wd, L, W, ⟨as.map (Am.val ctx), 0⟩, ar, W[j], rfl, ⟨I4, C4, R.ws⟩, Tp.mono (Tups.same s4) _ _ hbv, ?_, ?_⟩
    · show BRun ar (as.map _).length _
      rw [List.length_map, hal]
      exact hb
    · have w4 := wish.mv (Mv.same (s2.trans s4) : Mv A H H4)
      exact Wish.bind (f := .ok) (by
        have e : ∀ o : Out, o.bind .ok = o := fun o => by cases o <;> rfl
        rw [e]
        exact w4) fun h5 H5 m5 I5 w5 => w5.ok0 I5
theorem sc_body : FnScope ["hand", "body", "call", "statement"] ["hand", "body", "call"] (defScope sBody) := ⟨rfl, rfl, rfl, by decide +kernel, rfl, by decide +kernel, by decide +kernel⟩
theorem ok_body1 {D : Nat} {f fS : Addr} {fd fdS : FuncData} (F : Fun K "do_body" "do_body" sBody f fd)
    (DS : Dn P w K mg base (L2.CX P w) (3 * D + 8) "do_statement" fS fdS ["hand", "statement", "call"] (spStmt K CH CC cS cM D)) : FnOk P w K mg base (L2.CX P w) (3 * (D + 1) + 6) f fd ["hand", "body", "call"] (spBody K CH CC cS cM (D + 1)) := by
  refine F.okX sc_body (fun vs H Q E h => ?_) (fun cdv A0 outer s H vs Q E hr h => ?_)
  · obtain ⟨A, h, v, c, wd, nl, W, ctx, ar, b, rfl, _⟩ := h
    rfl
  obtain ⟨A, h, v, c, wd, nl, W, ctx, ar, b, rfl, R, hp, hbr, wish⟩ := h
  refine ⟨_, (pss_one (ps_for (passes_of rfl) rfl (pi_tup (pv 1)) (pg_name (i := 3) sc_body.nd rfl (.inl rfl)) (pss_one (ps_expr (dn_call DS hr (by omega) rfl (passes_call (takes_of rfl rfl rfl rfl) (fun _ _ _ _ z => z)) (pa_cons (pv 0) (pa_cons (pv 3) (pa_cons (pv 2) pa_nil)))))))), ?_⟩
  obtain ⟨p, xs, rfl, hs, hx⟩ := Tp.t hp
  rw [run_succ] at wish
  refine ⟨_, rfl, p, rfl, ⟨_, hs⟩, for_tup (K := K) (a := p) (xs := xs) (fun i σ H2 => ∃ (so : Option V) (h2 : Hd) (b2 : B), σ = [some (.ref A.x), some (.ref p), some (.ref c), so] ∧ Mv A H H2 ∧ HandAt K CH A H2 h2 0 ∧ TpAll K H (encB b2) (xs.drop i) ∧ BRun ar ctx.nums.length b2 ∧
      Wish K CH cS cM A H2 Q E (seqB (fun h b => eff W (run W D) ctx h b) b2 h2))
    ⟨none, h, b, rfl, Mv.refl _ _, R.hand, hx, hbr, wish⟩ (fun i σ H2 _ ⟨_, _, _, _, m2, _⟩ => m2.tups.sq hs) ?_ ?_⟩
  · rintro i x σ H2 hi ⟨so, h2, b2, rfl, m2, I2, hrest, hb2, w2⟩
    rw [drop_at hi] at hrest
    have nb : b2 ≠ .nil := by
      rintro rfl
      obtain z := hrest.n
      cases z
    rw [encB_cons nb] at hrest
    obtain ⟨x', r', e', hh, htl⟩ := hrest.c
    obtain ⟨rfl, rfl⟩ := List.cons.inj e'
    obtain ⟨ps, rr, rfl, hps⟩ := head_tp nb hh
    rw [seqB_cons _ b2 nb] at w2
    refine ⟨_, rfl, _, rfl, _, rfl, A, h2, ps, c, wd, nl, W, ctx, ar, b2, rfl, nb, ⟨I2, R.call.mv m2, R.ws⟩, Tp.mono m2.tups _ _ hh, hb2, ?_⟩
    refine Wish.bind w2 fun h3 H3 m3 I3 w3 => ?_
    exact ⟨_, h3, b2.tail, rfl, m2.trans m3, I3, htl, hb2.tail, w3⟩
  · rintro σ H2 ⟨so, h2, b2, rfl, m2, I2, hrest, hb2, w2⟩
    rw [List.drop_length] at hrest
    have nb : b2 = .nil := by
      have z := hrest.len
      rw [encB_len] at z
      cases b2 <;> first | rfl | cases z
    subst nb
    exact w2 H2 (Mv.refl _ _) I2
theorem sc_stmt : FnScope ["hand", "statement", "call", "verb", "value"] ["hand", "statement", "call"] (defScope sStmt) := ⟨rfl, rfl, rfl, by decide +kernel, rfl, by decide +kernel, by decide +kernel⟩
end
end TH
set_option Elab.async false
set_option linter.all false
set_option maxRecDepth 100000
set_option maxHeartbeats 4000000
namespace TH
open PySem PySem.Spec PyProof.Rows L2
/-- the first statement's effect behind its deed -/
def eff1 (W : List B) (rec : B → Ctx → Hd → Out) (c : Ctx) (h : Hd) : B → Out
  | .nil => .ok h
  | .go a _ => chk (a.val c) (.ok (h.go (a.val c)))
  | .turn a _ => chk (a.val c) (.ok (h.turn (a.val c)))
  | .ink a _ => chk (a.val c) (.ok { h with ink := a.val c % 8 })
  | .pen d _ => .ok { h with down := d }
  | .mark k _ => .ok (h.mark k)
  | .back k _ => backO h (h.marks k)
  | .again a b _ => chk (a.val c) (rounds (fun k h => rec b ⟨c.nums, k⟩ h) (a.val c).toNat 0 h)
  | .ite a b e _ => chk (a.val c) (if a.val c ≤ 0 then rec e c h else rec b c h)
  | .call j as _ => if as.any (fun a => decide ((a.val c).natAbs > 1000000)) = true then .great else rec (W.getD j .nil) ⟨as.map (Am.val c), 0⟩ h
theorem eff_deed {W : List B} {rec : B → Ctx → Hd → Out} {c : Ctx} {h : Hd} {b : B} (nb : b ≠ .nil) : eff W rec c h b = deed h fun h => eff1 W rec c h b := by
  cases b with
  | nil => exact absurd rfl nb
  | _ => unfold eff; rfl
theorem Wish.conv {K : PySem.W.Frag} {CH cS cM : Addr} {A : Adr} {H : Hp} {Q Q' : VK} {E : XK} {o : Out} (h : Wish K CH cS cM A H Q E o) (q : ∀ H', Q .non H' → Q' .non H') : Wish K CH cS cM A H Q' E o := by
  cases o with
  | ok h' => exact fun H' m i => q H' (h H' m i)
  | stop h' => exact h
  | nomark h' => exact h
  | great => exact h
  | deep => exact h
theorem Wish.chk {K : PySem.W.Frag} {CH cS cM : Addr} {A : Adr} {H : Hp} {Q : VK} {E : XK} {o : Out} {v : Int} (h : Wish K CH cS cM A H Q E (chk v o)) : v.natAbs ≤ 1000000 ∧ Wish K CH cS cM A H Q E o := by
  unfold TH.chk at h
  split at h
  · exact h.elim
  · exact ⟨by omega, h⟩
section
variable {P : Program} {w : World} {K : PySem.W.Frag} {mg : Str → Option Value} {base : Heap} {CH CC cS cM : Addr}
theorem ok_stmt {D : Nat} {f fD fV fA fW fB fT fS : Addr} {fd fdD fdV fdA fdW fdB fdT fdS : FuncData} (F : Fun K "do_statement" "do_statement" sStmt f fd) (B0 : Bl mg) (T : ClsT K CH FN)
    (DD : Dm P w K mg base (L2.CX P w) 2 CH "deed" fD fdD ["self"] (spDeed K CH cS)) (DV : Dm P w K mg base CX0 2 CC "value" fV fdV ["self", "amount"] (spValue K CC)) (DT : Dm P w K mg base CX0 1 CH "state" fT fdT ["self"] (spState K CH))
    (DS : Dn P w K mg base (L2.CX P w) 4 "do_simple" fS fdS ["hand", "verb", "value"] (spSimple K CH cS cM))
    (DA : Dn P w K mg base (L2.CX P w) (3 * D + 7) "do_again" fA fdA ["hand", "statement", "call"] (spAgain K CH CC cS cM D)) (DW : Dn P w K mg base (L2.CX P w) (3 * D + 7) "do_word" fW fdW ["hand", "statement", "call"] (spWord K CH CC cS cM D))
    (DB : Dn P w K mg base (L2.CX P w) (3 * D + 6) "do_body" fB fdB ["hand", "body", "call"] (spBody K CH CC cS cM D)) : FnOk P w K mg base (L2.CX P w) (3 * D + 8) f fd ["hand", "statement", "call"] (spStmt K CH CC cS cM D) := by
  refine F.okX sc_stmt (fun vs H Q E h => ?_) (fun cdv A0 outer s H vs Q E hr h => ?_)
  · obtain ⟨A, h, ps, c, wd, nl, W, ctx, ar, b, rfl, _⟩ := h
    rfl
  obtain ⟨A, h, ps, c, wd, nl, W, ctx, ar, b, rfl, nb, R, hp, hbr, wish⟩ := h
  refine ⟨_, (pss_cons (ps_expr (dm_call0 (pv 0) DD hr (by omega) (passes_call (takes_of rfl rfl rfl rfl) (fun _ _ _ _ z => z))))
    (pss_cons (ps_set (i := 3) sc_stmt.nd rfl (.inl rfl) (pe_ix ix_tup (pv 1) pe_int (fun _ _ => rfl)))
    (pss_one (ps_if (pt_cmpR op_eq (pv 3) pe_str (nomark _)) (pss_one (ps_expr (dn_call DA hr (by omega) rfl (passes_call (takes_of rfl rfl rfl rfl) (fun _ _ _ _ z => z)) (pa_cons (pv 0) (pa_cons (pv 1) (pa_cons (pv 2) pa_nil)))))) (pss_one (ps_if (pt_cmpR op_eq (pv 3) pe_str (nomark _)) (pss_one (ps_expr (dn_call DB hr (by omega) rfl (passes_call (takes_of rfl rfl rfl rfl) (fun _ _ _ _ z => z)) (pa_cons (pv 0) (pa_cons (pe_ix ix_tup (pv 1) (pe_op op_add pe_int (pe_callTy call_int1 (by rfl) B0.int (by decide +kernel) (pa_cons (pe_cmpR op_le (dm_call (pv 2) DV hr (by omega) pass0 (pa_cons (pe_ix ix_tup (pv 1) pe_int (fun _ _ => rfl)) pa_nil)) pe_int (nomark _)) pa_nil))) (fun _ _ => rfl)) (pa_cons (pv 2) pa_nil)))))) (pss_one (ps_if (pt_cmpR op_eq (pv 3) pe_str (nomark _)) (pss_one (ps_expr (dn_call DW hr (by omega) rfl (passes_call (takes_of rfl rfl rfl rfl) (fun _ _ _ _ z => z)) (pa_cons (pv 0) (pa_cons (pv 1) (pa_cons (pv 2) pa_nil)))))) (pss_one (ps_if (PW.pt (pw_or (pt_cmpR op_eq (pv 3) pe_str (nomark _)) (pw_or1 (pt_cmpR op_eq (pv 3) pe_str (nomark _))))) (pss_cons (ps_expr (pe_bm PySem.F.plainAttrs_list PySem.F.slot_list_append PySem.F.type_list_append mt_append (pe_fld (pv 0) rfl) (pa_cons (pe_tup (pa_cons (pv 3) (pa_cons pe_int (pa_cons (dm_call0 (pv 0) DT hr (by omega) pass0) pa_nil)))) pa_nil)))
    (pss_one (ps_expr (dn_call DS hr (by omega) rfl (passes_call (takes_of rfl rfl rfl rfl) (fun _ _ _ _ z => z)) (pa_cons (pv 0) (pa_cons (pv 3) (pa_cons pe_int pa_nil))))))) (pss_cons (ps_set (i := 4) sc_stmt.nd rfl (.inl rfl) (dm_call (pv 2) DV hr (by omega) pass0 (pa_cons (pe_ix ix_tup (pv 1) pe_int (fun _ _ => rfl)) pa_nil)))
    (pss_cons (ps_expr (pe_bm PySem.F.plainAttrs_list PySem.F.slot_list_append PySem.F.type_list_append mt_append (pe_fld (pv 0) rfl) (pa_cons (pe_tup (pa_cons (pv 3) (pa_cons (pv 4) (pa_cons (dm_call0 (pv 0) DT hr (by omega) pass0) pa_nil)))) pa_nil)))
    (pss_one (ps_expr (dn_call DS hr (by omega) rfl (passes_call (takes_of rfl rfl rfl rfl) (fun _ _ _ _ z => z)) (pa_cons (pv 0) (pa_cons (pv 3) (pa_cons (pv 4) pa_nil)))))))))))))))))), ?_⟩
  rw [eff_deed nb] at wish
  obtain ⟨dxh, sp, oh, _⟩ := R.hand.ob
  refine ⟨_, rfl, A.x, dxh, _, rfl, oh, zip_none (by decide +kernel), A, h, rfl, R.hand, fun e0 => ?_, fun e0 H3 m3 I3 => ?_⟩
  · unfold deed at wish
    rw [if_pos e0] at wish
    exact wish H (Mv.refl _ _) R.hand
  unfold deed at wish
  rw [if_neg e0] at wish
  have wish := wish.mv m3
  generalize ({ h with rest := h.rest - 1 } : Hd) = h3 at wish I3
  have C3 := R.call.mv m3
  have hp3 := Tp.mono m3.tups _ _ hp
  obtain ⟨dx3, sp3, oh3, _⟩ := I3.ob
  obtain ⟨dxc, oc⟩ := C3.ob
  obtain ⟨pl, hpl, _⟩ := I3.plain
  obtain ⟨ps1, rr, e1, hps⟩ := head_tp nb hp3
  obtain rfl := V.ref.inj e1
  refine ⟨_, rfl, ps, _, _, _, rfl, rfl, hps, atI_nat (j := 0) rfl, ?_⟩
  -- what is said behind the state
  have said : ∀ (z : V) (H4 : Hp) (v : Int), Same H3 H4 → ∀ (k : Hp → Prop), (∀ H5, Mv A H3 H5 → HandAt K CH A H5 h3 2 → k H5) →
      3 ≤ sizeLine ∧ ∀ t, H4 t = none → ∃ xs, (upd H4 t (.tup [.str (hname b), .int v, z])) A.pl = some (.lst xs) ∧ xs.length < sizeLine ∧ k (upd (upd H4 t (.tup [.str (hname b), .int v, z])) A.pl (.lst (xs ++ [.ref t]))) := by
    intro z H4 v s4 k hk
    refine ⟨len3, fun t ht => ?_⟩
    have s5 := same_new ht (.tup [V.str (hname b), V.int v, z])
    have I5 := I3.same (s4.trans s5)
    have e5 := s5 _ _ (s4 _ _ hpl)
    obtain ⟨J, mv, l⟩ := I5.plain_add (v := .ref t) e5
    exact ⟨pl, e5, l, hk _ ((Mv.same (s4.trans s5)).trans mv) J⟩
  by_cases hs : ∃ a, encH b = .tuple [.str (hname b), encA a] ∧ AmR ctx.nums.length a ∧ (a.val ctx).natAbs ≤ 1000000 ∧ SimpV ctx (a.val ctx) b ∧ Wish K CH cS cM A H3 Q E (effS ctx h3 b) ∧ hname b ≠ "again" ∧ hname b ≠ "if" ∧ hname b ≠ "do" ∧ hname b ≠ "up" ∧ hname b ≠ "down"
  · obtain ⟨a, ee, har, hab, hsv, w2, n1, n2, n3, n4, n5⟩ := hs
    rw [ee] at hp3
    obtain ⟨_, y1, y2, e2, hs2, _, hy2⟩ := tp_two hp3
    obtain rfl := V.ref.inj e2
    refine ⟨_, rfl, rfl, _, rfl, ifs_ne n1 ?_⟩
    refine ⟨_, rfl, rfl, _, rfl, ifs_ne n2 ?_⟩
    refine ⟨_, rfl, rfl, _, rfl, ifs_ne n3 ?_⟩
    refine ⟨_, rfl, rfl, _, rfl, ifs_ne n4 ?_⟩
    refine ⟨_, rfl, rfl, _, rfl, ifs_ne n5 ?_⟩
    refine ⟨_, rfl, c, dxc, _, rfl, oc, zip_none (by decide +kernel), _, rfl, ps, _, _, _, rfl, rfl, hs2, atI_nat (j := 1) rfl, c, nl, ctx, y2, a, rfl, C3.ctx, hy2, har, hab, ?_⟩
    refine ⟨_, rfl, A.x, CH, dx3, _, _, rfl, oh3, T.cl, T.na 9 _ rfl, zip_lookup fn_nd (i := 9) rfl rfl, .inl ⟨rfl, _, SqL.of hpl⟩, ?_⟩
    refine ⟨_, rfl, _, rfl, _, rfl, A.x, dx3, _, rfl, oh3, zip_none (by decide +kernel), A, h3, 3, rfl, I3, fun z H4 s4 hz => ?_⟩
    obtain ⟨l3, sd⟩ := said z H4 (a.val ctx) s4 (fun H5 => Mv A H3 H5 ∧ HandAt K CH A H5 h3 2) (fun H5 m J => ⟨m, J⟩)
    refine ⟨l3, fun t ht => ?_⟩
    obtain ⟨xs, e5, l5, m5, J5⟩ := sd t ht
    refine ⟨A.pl, xs, _, rfl, rfl, e5, l5, ?_⟩
    exact ⟨_, rfl, _, rfl, _, rfl, A, h3, b, ctx, a.val ctx, rfl, J5, hsv, (w2.mv m5).conv fun H' q => q⟩
  cases b with
  | nil => exact absurd rfl nb
  | go a r =>
    obtain ⟨c1, c2⟩ := Wish.chk (o := .ok (h3.go (a.val ctx))) wish
    exact absurd ⟨a, rfl, hbr.1, c1, rfl, c2, (show ("go" : Str) ≠ "again" ∧ ("go" : Str) ≠ "if" ∧ ("go" : Str) ≠ "do" ∧ ("go" : Str) ≠ "up" ∧ ("go" : Str) ≠ "down" by decide +kernel)⟩ hs
  | turn a r =>
    obtain ⟨c1, c2⟩ := Wish.chk (o := .ok (h3.turn (a.val ctx))) wish
    exact absurd ⟨a, rfl, hbr.1, c1, rfl, c2, (show ("turn" : Str) ≠ "again" ∧ ("turn" : Str) ≠ "if" ∧ ("turn" : Str) ≠ "do" ∧ ("turn" : Str) ≠ "up" ∧ ("turn" : Str) ≠ "down" by decide +kernel)⟩ hs
  | ink a r =>
    obtain ⟨c1, c2⟩ := Wish.chk (o := .ok { h3 with ink := a.val ctx % 8 }) wish
    exact absurd ⟨a, rfl, hbr.1, c1, rfl, c2, (show ("ink" : Str) ≠ "again" ∧ ("ink" : Str) ≠ "if" ∧ ("ink" : Str) ≠ "do" ∧ ("ink" : Str) ≠ "up" ∧ ("ink" : Str) ≠ "down" by decide +kernel)⟩ hs
  | mark k r =>
    exact absurd ⟨.lit k, rfl, trivial, by show k.natAbs ≤ _; have := hbr.1; omega, rfl, wish, (show ("mark" : Str) ≠ "again" ∧ ("mark" : Str) ≠ "if" ∧ ("mark" : Str) ≠ "do" ∧ ("mark" : Str) ≠ "up" ∧ ("mark" : Str) ≠ "down" by decide +kernel)⟩ hs
  | back k r =>
    exact absurd ⟨.lit k, rfl, trivial, by show k.natAbs ≤ _; have := hbr.1; omega, rfl, wish, (show ("back" : Str) ≠ "again" ∧ ("back" : Str) ≠ "if" ∧ ("back" : Str) ≠ "do" ∧ ("back" : Str) ≠ "up" ∧ ("back" : Str) ≠ "down" by decide +kernel)⟩ hs
  | again a b2 r =>
    refine ⟨_, rfl, rfl, _, rfl, ifs_eq (x := "again") ?_⟩
    exact ⟨_, rfl, _, rfl, _, rfl, A, h3, ps, c, wd, nl, W, ctx, ar, a, b2, r, rfl, ⟨I3.less (Nat.zero_le 3), C3, R.ws⟩, hp3, hbr.1.1, hbr.1.2, Wish.conv wish fun H' q => q⟩
  | ite a b2 b3 r =>
    obtain ⟨c1, c2⟩ := Wish.chk (o := if a.val ctx ≤ 0 then run W D b3 ctx h3 else run W D b2 ctx h3) wish
    obtain ⟨_, ys, e2, hs2, hy⟩ := Tp.t hp3
    obtain rfl := V.ref.inj e2
    obtain ⟨y1, r1, rfl, g1, hy⟩ := hy.c
    obtain ⟨y2, r2, rfl, g2, hy⟩ := hy.c
    obtain ⟨y3, r3, rfl, g3, hy⟩ := hy.c
    obtain ⟨y4, r4, rfl, g4, hy⟩ := hy.c
    obtain rfl := hy.n
    refine ⟨_, rfl, rfl, _, rfl, ifs_ne (x := "if") (by decide +kernel) ?_⟩
    refine ⟨_, rfl, rfl, _, rfl, ifs_eq (x := "if") ?_⟩
    refine ⟨_, rfl, _, rfl, _, rfl, c, dxc, _, rfl, oc, zip_none (by decide +kernel), _, rfl, ps, _, _, _, rfl, rfl, hs2, atI_nat (j := 1) rfl, c, nl, ctx, y2, a, rfl, C3.ctx, g2, hbr.1.1, c1, ?_⟩
    refine ⟨_, _, rfl, rfl, .inr ⟨_, rfl, _, _, rfl, rfl, ps, _, _, if a.val ctx ≤ 0 then y4 else y3, rfl, rfl, hs2, ?_, ?_⟩⟩
    · by_cases z : a.val ctx ≤ 0
      · rw [if_pos z, decide_eq_true z]
        exact atI_nat (j := 3) rfl
      · rw [if_neg z, decide_eq_false z]
        exact atI_nat (j := 2) rfl
    · by_cases z : a.val ctx ≤ 0
      · rw [if_pos z] at c2 ⊢
        exact ⟨_, rfl, A, h3, y4, c, wd, nl, W, ctx, ar, b3, rfl, ⟨I3.less (Nat.zero_le 3), C3, R.ws⟩, g4, hbr.1.2.2, Wish.conv c2 fun H' q => q⟩
      · rw [if_neg z] at c2 ⊢
        exact ⟨_, rfl, A, h3, y3, c, wd, nl, W, ctx, ar, b2, rfl, ⟨I3.less (Nat.zero_le 3), C3, R.ws⟩, g3, hbr.1.2.1, Wish.conv c2 fun H' q => q⟩
  | call j as r =>
    refine ⟨_, rfl, rfl, _, rfl, ifs_ne (x := "do") (by decide +kernel) ?_⟩
    refine ⟨_, rfl, rfl, _, rfl, ifs_ne (x := "do") (by decide +kernel) ?_⟩
    refine ⟨_, rfl, rfl, _, rfl, ifs_eq (x := "do") ?_⟩
    exact ⟨_, rfl, _, rfl, _, rfl, A, h3, ps, c, wd, nl, W, ctx, ar, j, as, r, rfl, ⟨I3.less (Nat.zero_le 3), C3, R.ws⟩, hp3, hbr.1, Wish.conv wish fun H' q => q⟩
  | pen d r =>
    have fin : ∀ (z : V) (H4 : Hp), Same H3 H4 → 3 ≤ sizeLine ∧ ∀ t, H4 t = none → ∃ xs, (upd H4 t (.tup [.str (hname (.pen d r)), .int 0, z])) A.pl = some (.lst xs) ∧ xs.length < sizeLine ∧
        (Mv A H3 (upd (upd H4 t (.tup [.str (hname (.pen d r)), .int 0, z])) A.pl (.lst (xs ++ [.ref t]))) ∧ HandAt K CH A (upd (upd H4 t (.tup [.str (hname (.pen d r)), .int 0, z])) A.pl (.lst (xs ++ [.ref t]))) h3 2) := fun z H4 s4 =>
      said z H4 0 s4 (fun H5 => Mv A H3 H5 ∧ HandAt K CH A H5 h3 2) (fun H5 m J => ⟨m, J⟩)
    cases d with
    | false =>
      refine ⟨_, rfl, rfl, _, rfl, ifs_ne (x := "up") (by decide +kernel) ?_⟩
      refine ⟨_, rfl, rfl, _, rfl, ifs_ne (x := "up") (by decide +kernel) ?_⟩
      refine ⟨_, rfl, rfl, _, rfl, ifs_ne (x := "up") (by decide +kernel) ?_⟩
      refine ⟨_, rfl, rfl, _, rfl, ifs_eq (x := "up") ?_⟩
      refine ⟨_, rfl, A.x, CH, dx3, _, _, rfl, oh3, T.cl, T.na 9 _ rfl, zip_lookup fn_nd (i := 9) rfl rfl, .inl ⟨rfl, _, SqL.of hpl⟩, ?_⟩
      refine ⟨_, rfl, _, rfl, A.x, dx3, _, rfl, oh3, zip_none (by decide +kernel), A, h3, 3, rfl, I3, fun z H4 s4 hz => ?_⟩
      obtain ⟨l3, sd⟩ := fin z H4 s4
      refine ⟨l3, fun t ht => ?_⟩
      obtain ⟨xs, e5, l5, m5, J5⟩ := sd t ht
      refine ⟨A.pl, xs, _, rfl, rfl, e5, l5, ?_⟩
      exact ⟨_, rfl, _, rfl, A, h3, .pen false r, ctx, 0, rfl, J5, rfl, Wish.conv (Wish.mv (o := .ok { h3 with down := false }) wish m5) fun H' q => q⟩
    | true =>
      refine ⟨_, rfl, rfl, _, rfl, ifs_ne (x := "down") (by decide +kernel) ?_⟩
      refine ⟨_, rfl, rfl, _, rfl, ifs_ne (x := "down") (by decide +kernel) ?_⟩
      refine ⟨_, rfl, rfl, _, rfl, ifs_ne (x := "down") (by decide +kernel) ?_⟩
      refine ⟨_, rfl, rfl, _, rfl, ifs_ne (x := "down") (by decide +kernel) ?_⟩
      refine ⟨_, rfl, rfl, _, rfl, ifs_eq (x := "down") ?_⟩
      refine ⟨_, rfl, A.x, CH, dx3, _, _, rfl, oh3, T.cl, T.na 9 _ rfl, zip_lookup fn_nd (i := 9) rfl rfl, .inl ⟨rfl, _, SqL.of hpl⟩, ?_⟩
      refine ⟨_, rfl, _, rfl, A.x, dx3, _, rfl, oh3, zip_none (by decide +kernel), A, h3, 3, rfl, I3, fun z H4 s4 hz => ?_⟩
      obtain ⟨l3, sd⟩ := fin z H4 s4
      refine ⟨l3, fun t ht => ?_⟩
      obtain ⟨xs, e5, l5, m5, J5⟩ := sd t ht
      refine ⟨A.pl, xs, _, rfl, rfl, e5, l5, ?_⟩
      exact ⟨_, rfl, _, rfl, A, h3, .pen true r, ctx, 0, rfl, J5, rfl, Wish.conv (Wish.mv (o := .ok { h3 with down := true }) wish m5) fun H' q => q⟩
theorem ok_body {fB fS fA fW fD fV fT fI fP : Addr} {fdB fdS fdA fdW fdD fdV fdT fdI fdP : FuncData} (B0 : Bl mg) (T : ClsT K CH FN) (TC : ClsT K CC CN) (MC : Mk K CC fI) (gC : mg "Call" = some (.ref CC))
    (DI : FnOk P w K mg base CX0 1 fI fdI ["self", "words", "numbers", "count"] (spCInit CC)) (bI : Binds K fdI ["self", "words", "numbers", "count"] [])
    (DD : Dm P w K mg base (L2.CX P w) 2 CH "deed" fD fdD ["self"] (spDeed K CH cS)) (DV : Dm P w K mg base CX0 2 CC "value" fV fdV ["self", "amount"] (spValue K CC)) (DT : Dm P w K mg base CX0 1 CH "state" fT fdT ["self"] (spState K CH))
    (DP : Dn P w K mg base (L2.CX P w) 4 "do_simple" fP fdP ["hand", "verb", "value"] (spSimple K CH cS cM))
    (FB : Fun K "do_body" "do_body" sBody fB fdB) (gB : mg "do_body" = some (.ref fB)) (bB : Binds K fdB ["hand", "body", "call"] [])
    (FS : Fun K "do_statement" "do_statement" sStmt fS fdS) (gS : mg "do_statement" = some (.ref fS)) (bS : Binds K fdS ["hand", "statement", "call"] [])
    (FA : Fun K "do_again" "do_again" sAgain fA fdA) (gA : mg "do_again" = some (.ref fA)) (bA : Binds K fdA ["hand", "statement", "call"] [])
    (FW : Fun K "do_word" "do_word" sWord fW fdW) (gW : mg "do_word" = some (.ref fW)) (bW : Binds K fdW ["hand", "statement", "call"] []) :
    ∀ D : Nat, FnOk P w K mg base (L2.CX P w) (3 * D + 6) fB fdB ["hand", "body", "call"] (spBody K CH CC cS cM D)
  | 0 => by
    have no : ∀ vs H Q E, ¬ spBody K CH CC cS cM 0 vs H Q E := fun vs H Q E h => by
      obtain ⟨_, _, _, _, _, _, _, _, _, _, _, _, _, _, z⟩ := h
      first
        | exact z
        | (obtain ⟨_, z⟩ := z; exact z)
    exact ⟨fun vs H Q E h => absurd h (no vs H Q E), fun A outer s H args us vs Q E _ _ _ _ h => absurd h (no vs H Q E)⟩
  | D + 1 => by
    have ih : Dn P w K mg base (L2.CX P w) (3 * D + 6) "do_body" fB fdB ["hand", "body", "call"] (spBody K CH CC cS cM D) := ⟨ok_body B0 T TC MC gC DI bI DD DV DT DP FB gB bB FS gS bS FA gA bA FW gW bW D, gB, FB.kp, bB⟩
    have ka : Dn P w K mg base (L2.CX P w) (3 * D + 7) "do_again" fA fdA ["hand", "statement", "call"] (spAgain K CH CC cS cM D) := ⟨ok_again FA B0 TC MC gC DI bI DD DV ih, gA, FA.kp, bA⟩
    have kw : Dn P w K mg base (L2.CX P w) (3 * D + 7) "do_word" fW fdW ["hand", "statement", "call"] (spWord K CH CC cS cM D) := ⟨ok_word FW TC MC gC DI bI DV ih, gW, FW.kp, bW⟩
    exact ok_body1 FB ⟨ok_stmt FS B0 T DD DV DT DP ka kw ih, gS, FS.kp, bS⟩
end
end TH
set_option Elab.async false
set_option linter.all false
set_option maxRecDepth 100000
set_option maxHeartbeats 4000000
namespace TH
open PySem PySem.Spec PyProof.Rows L2
abbrev sBehind : Stmt := top 27
abbrev sRun : Stmt := top 28
abbrev sRan : Stmt := top 43
structure Prog.Runs (p : Prog) : Prop where
  ws : WRun (p.ws.map (·.1)) (p.ws.map (·.2))
  body : BRun (p.ws.map (·.1)) 0 p.body
theorem wname_inj {i j : Nat} (hi : i < 6) (hj : j < 6) (h : wname i = wname j) : i = j := by
  have key : ∀ a b : Fin 6, wname a.val = wname b.val → a = b := by decide +kernel
  exact congrArg Fin.val (key ⟨i, hi⟩ ⟨j, hj⟩ h)
/-- by the run's end -/
def Told (P : Hd → Bool → Prop) (M : Prop) : Out → Prop
  | .ok h => P h true
  | .stop h => P h false
  | .nomark _ => M
  | .great => False
  | .deep => False
def spBehind (K : PySem.W.Frag) (CH cM : Addr) : Sp := fun vs H Q E => ∃ (v : V) (p : Prog) (M : Nat), vs = [v, .int M] ∧ Tp K H (encProg p) v ∧ p.Runs ∧ M ≤ 300 ∧
  Told (fun h d => ∀ (A : Adr) (H' : Hp) (z : Addr), Same H H' → HandAt K CH A H' h 0 → SqT K H' z [.ref A.x, .bl d] → Q (.ref z) H') (∀ H', Same H H' → E (.ref cM) none H') (p.run M)
abbrev nBehind : List Str := ["program", "most", "words", "hand", "done", "name", "many", "body"]
section
variable {P : Program} {w : World} {K : PySem.W.Frag} {mg : Str → Option Value} {base : Heap} {CH CC cS cM : Addr}
theorem sc_behind : FnScope nBehind ["program", "most"] (defScope sBehind) := ⟨rfl, rfl, rfl, by decide +kernel, rfl, by decide +kernel, by decide +kernel⟩
theorem ok_behind {f fB fI fHI : Addr} {fd fdB fdI fdHI : FuncData} (F : Fun K "hand_behind" "hand_behind" sBehind f fd) (MC : Mk K CC fI) (gC : mg "Call" = some (.ref CC))
    (DI : FnOk P w K mg base CX0 1 fI fdI ["self", "words", "numbers", "count"] (spCInit CC)) (bI : Binds K fdI ["self", "words", "numbers", "count"] [])
    (MH : Mk K CH fHI) (gH : mg "Hand" = some (.ref CH)) (DHI : FnOk P w K mg base CX0 1 fHI fdHI ["self", "most"] (spHInit K CH)) (bHI : Binds K fdHI ["self", "most"] [])
    (gS : mg "Stopped" = some (.ref cS)) (xSS : PySem.W.exmOne K (.ref cS) (.ref cS) = some true) (xMS : PySem.W.exmOne K (.ref cM) (.ref cS) = some false)
    (DB : Dn P w K mg base (L2.CX P w) 96 "do_body" fB fdB ["hand", "body", "call"] (spBody K CH CC cS cM 30)) : FnOk P w K mg base (L2.CX P w) 97 f fd ["program", "most"] (spBehind K CH cM) := by
  refine F.okX sc_behind (fun vs H Q E h => ?_) (fun cdv A0 outer s H vs Q E hr h => ?_)
  · obtain ⟨v, p, M, rfl, _⟩ := h
    rfl
  obtain ⟨v, p, M, rfl, hp, pr, hM, told⟩ := h
  have hu := hu_of hr
  refine ⟨_, pss_cons (ps_set (i := 2) sc_behind.nd rfl (.inl rfl) pe_dnewK)
    (pss_cons (ps_for (passes_of rfl) rfl (pi_tup (pe_ix ix_tup (pv 0) pe_int (fun _ _ => rfl))) (pg_tup rfl (pgs_cons (pg_name (i := 5) sc_behind.nd rfl (.inl rfl)) (pgs_cons (pg_name (i := 6) sc_behind.nd rfl (.inl rfl)) (pgs_cons (pg_name (i := 7) sc_behind.nd rfl (.inl rfl)) pgs_nil))))
      (pss_one (ps_dput hu (pv 2) (pv 5) (pv 7) rfl)))
    (pss_cons (ps_set (i := 3) sc_behind.nd rfl (.inl rfl) (pe_make MH DHI (hr.mono (by decide)) rfl gH bHI .nil pass0 (pa_cons (pv 1) pa_nil)))
    (pss_cons (ps_set (i := 4) sc_behind.nd rfl (.inl rfl) pe_bl)
    (pss_cons (ps_try_only (c := .ref cS) (tb := fun W => tDrop (tCallS (spBody K CH CC cS cM 30) (WE W) (tCons (tVar 3) (tCons (tOp (rIxT K) (tVar 0) (tC (.int 1))) (tCons (tMake CC (spCInit CC) [] E0 (tCons (tVar 2) (tCons (tLst tNil) (tCons (tC (.int 0)) tNil)))) tNil)))))
        (ts := fun _ _ _ => tAsg (tC (.bl false)) (gName 4)) (Wout := fun cls d _ H => E cls d H) rfl rfl ⟨rfl, by decide, .inl gS⟩ (takes_of rfl rfl rfl rfl)
        (fun W pn xe tk _ => pss_one (ps_expr (by exact (pe_callS DB.ok hr rfl DB.g DB.kp DB.b (fun σ => passAt tk σ) (by exact (pa_cons (pv 3) (pa_cons (pe_ix ix_tup (pv 0) pe_int (fun _ _ => rfl)) (pa_cons (pe_make MC DI (hr.mono (by decide)) rfl gC bI .nil pass0 (pa_cons (pv 2) (pa_cons (pe_lst pa_nil) (pa_cons pe_int pa_nil)))) pa_nil))))))))
        (fun a oe cls d pn hz hf => pss_one (ps_set (i := 4) sc_behind.nd rfl (.inl rfl) pe_bl)))
    (pss_one (ps_ret (pe_tup (pa_cons (pv 3) (pa_cons (pv 4) pa_nil))))))))), ?_⟩
  obtain ⟨a, x1, x2, rfl, hs, hw, hb⟩ := tp_two hp
  obtain ⟨aw, xw, rfl, hsw, hxw⟩ := Tp.t hw
  have l6 : xw.length ≤ 6 := by
    have e := hxw.len
    rw [encWs_len] at e
    have := pr.ws.few
    rw [List.length_map] at this
    omega
  intro wd hwd
  have s0 := same_new hwd (.dK [])
  refine ⟨_, rfl, a, _, _, _, rfl, rfl, (Tups.same s0).sq hs, atI_nat (j := 0) rfl, aw, rfl, ⟨_, (Tups.same s0).sq hsw⟩, for_tup (K := K) (a := aw) (xs := xw) (fun i σ H2 => ∃ (o5 o6 o7 : Option V) (kvs : List (Key × V)), σ = [some (.ref a), some (.int M), some (.ref wd), none, none, o5, o6, o7] ∧ Same H H2 ∧ H2 wd = some (.dK kvs) ∧ kvs.length ≤ i ∧
      ∀ j, j < i → ∀ wj, p.ws[j]? = some wj → ∃ v, valV kvs (Sum.inr (wname j) : Key) = some v ∧ Tp K H (.tuple (encB wj.2)) v)
    ⟨none, none, none, [], rfl, s0, upd_same, Nat.le_refl _, fun j hj => absurd hj (Nat.not_lt_zero _)⟩ (fun i σ H2 _ ⟨_, _, _, _, _, s2, _⟩ => (Tups.same s2).sq hsw) ?_ ?_⟩
  · rintro i x σ H2 hi ⟨o5, o6, o7, kvs, rfl, s2, hk, hkl, hv⟩
    have hil : i < xw.length := (List.getElem?_eq_some_iff.mp hi).1
    obtain ⟨w1, hw1, hh⟩ := encWs_at hxw hi
    rw [Nat.zero_add] at hh
    obtain ⟨pw, y1, y2, y3, rfl, hpw, h1, h2, h3⟩ := tp_three hh
    obtain rfl := h1.s
    have t2 := Tups.same s2
    refine ⟨pw, _, rfl, t2.sq hpw, rfl, _, _, rfl, _, _, rfl, _, _, rfl, rfl, ?_⟩
    refine ⟨_, rfl, _, rfl, _, rfl, wd, _, rfl, DPut.k (k := Sum.inr (wname i)) hk (small1000 (by omega)), ?_⟩
    refine ⟨_, _, _, putK kvs (Sum.inr (wname i)) y3, rfl, fun b o e => ?_, upd_same, ?_, fun j hj wj ej => ?_⟩
    · rw [upd_ne (ne_of_none e hwd)]
      exact s2 _ _ e
    · have := length_putK kvs (Sum.inr (wname i) : Key) y3
      omega
    · rw [valV_put]
      by_cases c : j = i
      · subst c
        rw [if_pos rfl]
        rw [hw1] at ej
        cases ej
        exact ⟨y3, rfl, h3⟩
      · rw [if_neg (fun z => c (wname_inj (by omega) (by omega) (Sum.inr.inj z)))]
        exact hv j (by omega) wj ej
  · rintro σ H2 ⟨o5, o6, o7, kvs, rfl, s2, hk, hkl, hv⟩
    refine ⟨_, rfl, fun x dx hx hdx ne => ?_⟩
    refine ⟨x, dx, M, rfl, upd_same, hM, fun A H3 eA fresh k3 I3 => ⟨rfl, ?_⟩⟩
    subst eA
    have s3 : Same H2 H3 := same_made hx hdx k3
    have hfr : ∀ b, A.S b → H2 b = none := fun b hb => by
      rcases fresh b hb with rfl | e
      · exact hx
      · by_cases c : b = A.x
        · rw [c]; exact hx
        · rw [upd_ne c] at e
          by_cases c2 : b = dx
          · rw [c2]; exact hdx
          · rw [upd_ne c2] at e
            exact e
    have hk3 := s3 _ _ hk
    have nwd : ¬ A.S wd := fun z => by rw [hfr wd z] at hk; cases hk
    have t3 := Tups.same (s2.trans s3)
    refine ⟨_, rfl, _, rfl, a, _, _, _, rfl, rfl, t3.sq hs, atI_nat (j := 1) rfl, _, rfl, Nat.zero_le _, fun L hL => ?_⟩
    have s4 := same_new hL (.lst [])
    intro c dc hc hdc nc
    refine ⟨c, dc, wd, L, 0, rfl, upd_same, fun H5 k5 o5 => ⟨rfl, ?_⟩⟩
    have s5 : Same (upd H3 L (.lst [])) H5 := same_made hc hdc k5
    have s35 : Same H3 H5 := s4.trans s5
    have I5 := I3.same s35
    have t5 := Tups.same (s2.trans (s3.trans s35))
    have C5 : CallAt K CC A H5 c wd L (p.ws.map (·.2)) ⟨[], 0⟩ := by
      refine ⟨⟨dc, o5⟩, ⟨kvs, s35 _ _ hk3, fun j b e => ?_⟩, s5 _ _ upd_same, (I3.same s4).notS hc, nwd, I3.notS hL⟩
      rw [List.getElem?_map] at e
      cases ej : p.ws[j]? with
      | none => rw [ej] at e; cases e
      | some wj =>
        rw [ej] at e
        have eb : wj.2 = b := Option.some.inj e
        subst eb
        have hjl : j < xw.length := by
          have e2 := hxw.len
          rw [encWs_len] at e2
          have := (List.getElem?_eq_some_iff.mp ej).1
          omega
        obtain ⟨v, e1, e2⟩ := hv j hjl wj ej
        exact ⟨v, e1, Tp.mono t5 _ _ e2⟩
    -- behind the run: the pair is laid
    have tail : ∀ (h : Hd) (d : Bool) (H6 : Hp), Mv A H5 H6 → HandAt K CH A H6 h 0 → (∀ (A : Adr) (H' : Hp) (z : Addr), Same H H' → HandAt K CH A H' h 0 → SqT K H' z [.ref A.x, .bl d] → Q (.ref z) H') →
        2 ≤ sizeLine ∧ ∀ z, H6 z = none → Q (.ref z) (upd H6 z (.tup [.ref A.x, .bl d])) := by
      intro h d H6 m6 I6 q
      refine ⟨len2, fun z hz => ?_⟩
      have s7 := same_new hz (.tup [.ref A.x, .bl d])
      refine q A _ z (fun b o e => ?_) (I6.same s7) sqt_new
      have nb : ¬ A.S b := fun hb => by
        have e2 := hfr b hb
        rw [s2 _ _ e] at e2
        cases e2
      exact s7 _ _ (m6.keep _ _ nb (s35 _ _ (s3 _ _ (s2 _ _ e))))
    refine ⟨A, Hd.init M, x2, c, wd, L, p.ws.map (·.2), ⟨[], 0⟩, p.ws.map (·.1), p.body, rfl, ⟨I5, C5, pr.ws⟩, Tp.mono t5 _ _ hb, pr.body, ?_⟩
    have told : Told _ _ (run (p.ws.map (·.2)) 30 p.body ⟨[], 0⟩ (Hd.init M)) := told
    generalize run (p.ws.map (·.2)) 30 p.body ⟨[], 0⟩ (Hd.init M) = o at told ⊢
    cases o with
    | ok h =>
      intro H6 m6 I6
      exact ⟨_, rfl, _, rfl, tail h true H6 m6 I6 told⟩
    | stop h =>
      intro H6 m6 I6
      exact ⟨true, xSS, fun _ a0 _ => ⟨_, rfl, _, rfl, tail h false H6 m6 I6 told⟩, fun z => nomatch z⟩
    | nomark h =>
      intro H6 m6 I6
      refine ⟨false, xMS, (fun z => nomatch z), fun _ => told H6 fun b o e => ?_⟩
      have nb : ¬ A.S b := fun hb => by
        have e2 := hfr b hb
        rw [s2 _ _ e] at e2
        cases e2
      exact m6.keep _ _ nb (s35 _ _ (s3 _ _ (s2 _ _ e)))
    | great => exact told.elim
    | deep => exact told.elim
end
/-- what a run tells, at z -/
def RunTup (K : PySem.W.Frag) (H : Hp) (z : Addr) (h : Hd) (d : Bool) : Prop := ∃ (st co : Addr) (xs ys : List V) (es : V), SqT K H z [.ref st, .ref co, es, .int h.turns, .bl d] ∧ H st = some (.lst xs) ∧ TpAll K H (h.strokes.map encS) xs ∧ H co = some (.lst ys) ∧ TpAll K H (h.corners.map encP) ys ∧
  Tp K H (.tuple [encP h.spot, .int h.head, .bool h.down, .int h.ink]) es ∧ xs.length ≤ 3000 ∧ ys.length ≤ 3000
theorem RunTup.same {K : PySem.W.Frag} {H H' : Hp} {z : Addr} {h : Hd} {d : Bool} (r : RunTup K H z h d) (s : Same H H') : RunTup K H' z h d := by
  obtain ⟨st, co, xs, ys, es, a1, a2, a3, a4, a5, a6, a7⟩ := r
  have t := Tups.same s
  exact ⟨st, co, xs, ys, es, t.sq a1, s _ _ a2, TpAll.mono t _ _ a3, s _ _ a4, TpAll.mono t _ _ a5, Tp.mono t _ _ a6, a7⟩
def spRun (K : PySem.W.Frag) (cM : Addr) : Sp := fun vs H Q E => ∃ (v : V) (p : Prog) (M : Nat), vs = [v, .int M] ∧ Tp K H (encProg p) v ∧ p.Runs ∧ M ≤ 300 ∧
  Told (fun h d => ∀ (H' : Hp) (z : Addr), Same H H' → RunTup K H' z h d → Q (.ref z) H') (∀ H', Same H H' → E (.ref cM) none H') (p.run M)
def spRan (K : PySem.W.Frag) : Sp := fun vs H Q _ => ∃ (v : V) (p : Prog) (M : Nat), vs = [v, .int M] ∧ Tp K H (encProg p) v ∧ p.Runs ∧ M ≤ 300 ∧
  Told (fun h d => ∀ (H' : Hp) (l z : Addr), Same H H' → RunTup K H' z h d → H' l = some (.lst [.str "", .ref z]) → Q (.ref l) H') (∀ (H' : Hp) (l : Addr), Same H H' → H' l = some (.lst [.str "mark", .non]) → Q (.ref l) H') (p.run M)
theorem Told.imp {P P' : Hd → Bool → Prop} {M M' : Prop} {o : Out} (h : Told P M o) (p : ∀ h d, P h d → P' h d) (m : M → M') : Told P' M' o := by
  cases o with
  | ok h' => exact p _ _ h
  | stop h' => exact p _ _ h
  | nomark h' => exact m h
  | great => exact h
  | deep => exact h
section
variable {P : Program} {w : World} {K : PySem.W.Frag} {mg : Str → Option Value} {base : Heap} {CH CC cS cM cG : Addr}
theorem sc_run : FnScope ["program", "most", "hand", "done"] ["program", "most"] (defScope sRun) := ⟨rfl, rfl, rfl, by decide +kernel, rfl, by decide +kernel, by decide +kernel⟩
theorem ok_run {f fB fT : Addr} {fd fdB fdT : FuncData} (F : Fun K "run" "run" sRun f fd) (T : ClsT K CH FN) (DT : Dm P w K mg base CX0 1 CH "state" fT fdT ["self"] (spState K CH))
    (DB : Dn P w K mg base (L2.CX P w) 97 "hand_behind" fB fdB ["program", "most"] (spBehind K CH cM)) : FnOk P w K mg base (L2.CX P w) 98 f fd ["program", "most"] (spRun K cM) := by
  refine F.okX sc_run (fun vs H Q E h => ?_) (fun cdv A0 outer s H vs Q E hr h => ?_)
  · obtain ⟨v, p, M, rfl, _⟩ := h
    rfl
  obtain ⟨v, p, M, rfl, hp, pr, hM, told⟩ := h
  refine ⟨_, (pss_cons (ps_asg (dn_call DB hr (by omega) rfl (passes_call (takes_of rfl rfl rfl rfl) (fun _ _ _ _ z => z)) (pa_cons (pv 0) (pa_cons (pv 1) pa_nil))) (pg_tup rfl (pgs_cons (pg_name (i := 2) sc_run.nd rfl (.inl rfl)) (pgs_cons (pg_name (i := 3) sc_run.nd rfl (.inl rfl)) pgs_nil))))
    (pss_one (ps_ret (pe_tup (pa_cons (pe_fld (pv 2) rfl) (pa_cons (pe_fld (pv 2) rfl) (pa_cons (dm_call0 (pv 2) DT hr (by omega) pass0) (pa_cons (pe_fld (pv 2) rfl) (pa_cons (pv 3) pa_nil))))))))), ?_⟩
  refine ⟨_, rfl, _, rfl, v, p, M, rfl, hp, pr, hM, told.imp (fun h d q A H1 z s1 I hz => ?_) (fun q => q)⟩
  obtain ⟨dx, sp, o1, o2⟩ := I.ob
  obtain ⟨xs, e1, l1, t1⟩ := I.strokes
  obtain ⟨ys, e2, l2, t2⟩ := I.corners
  refine ⟨z, _, rfl, hz, rfl, _, _, rfl, _, _, rfl, rfl, ?_⟩
  refine ⟨_, rfl, A.x, CH, dx, _, _, rfl, o1, T.cl, T.na 5 _ rfl, zip_lookup fn_nd (i := 5) rfl rfl, _, rfl, A.x, CH, dx, _, _, rfl, o1, T.cl, T.na 6 _ rfl, zip_lookup fn_nd (i := 6) rfl rfl, _, rfl, A.x, dx, _, rfl, o1, zip_none (by decide +kernel), A, h, 0, rfl, I, fun es H2 s2 hes => ?_⟩
  refine ⟨_, rfl, A.x, CH, dx, _, _, rfl, s2 _ _ o1, T.cl, T.na 7 _ rfl, zip_lookup fn_nd (i := 7) rfl rfl, _, rfl, len5, fun t ht => ?_⟩
  have s3 := same_new ht (.tup [V.ref A.st, V.ref A.co, es, V.int h.turns, V.bl d])
  have s23 := s2.trans s3
  have tt := Tups.same s23
  exact q _ t (s1.trans s23) ⟨A.st, A.co, xs, ys, es, sqt_new, s23 _ _ e1, TpAll.mono tt _ _ t1, s23 _ _ e2, TpAll.mono tt _ _ t2, Tp.mono (Tups.same s3) _ _ hes, by omega, by omega⟩
abbrev nRan : List Str := ["_law_program_here", "_law_most_here", "_law_refused", "_law_found"]
theorem sc_ran : FnScope nRan ["_law_program_here", "_law_most_here"] (defScope sRan) := ⟨rfl, rfl, rfl, by decide +kernel, rfl, by decide +kernel, by decide +kernel⟩
theorem ok_ran {f fB : Addr} {fd fdB : FuncData} (F : Fun K "_law_ran" "_law_ran" sRan f fd) (gM : mg "NoMark" = some (.ref cM)) (gG : mg "TooGreat" = some (.ref cG)) (xMM : PySem.W.exmOne K (.ref cM) (.ref cM) = some true)
    (DB : Dn P w K mg base (L2.CX P w) 98 "run" fB fdB ["program", "most"] (spRun K cM)) : FnOk P w K mg base CX0 99 f fd ["_law_program_here", "_law_most_here"] (spRan K) := by
  refine F.ok sc_ran (fun vs H Q E h => ?_) (fun cdv A0 outer s H vs Q E hr h => ?_)
  · obtain ⟨v, p, M, rfl, _⟩ := h
    rfl
  obtain ⟨v, p, M, rfl, hp, pr, hM, told⟩ := h
  refine ⟨_, pss_cons (ps_set (i := 2) sc_ran.nd rfl (.inl rfl) pe_str)
    (pss_cons (ps_set (i := 3) sc_ran.nd rfl (.inl rfl) pe_non)
    (pss_cons (ps_try_many (tb := fun W => tAsg (tCallS (spRun K cM) (WE W) (tCons (tVar 0) (tCons (tVar 1) tNil))) (gName 3)) (Wout := fun _ _ _ _ => False)
        (l := [(.ref cM, fun _ _ _ => tAsg (tC (.str "mark")) (gName 2)), (.ref cG, fun _ _ _ => tAsg (tC (.str "great")) (gName 2))]) rfl rfl takes0
        (fun W pn xe tk _ => pss_one (ps_set (i := 3) sc_ran.nd rfl (.inl rfl) (by exact (pe_callS DB.ok hr rfl DB.g DB.kp DB.b (fun σ => passAt tk σ) (by exact (pa_cons (pv 0) (pa_cons (pv 1) pa_nil)))))))
        (.cons ⟨rfl, by decide, .inl gM⟩ (fun a oe cls d pn hz hf => pss_one (ps_set (i := 2) sc_ran.nd rfl (.inl rfl) pe_str))
          (.cons ⟨rfl, by decide, .inl gG⟩ (fun a oe cls d pn hz hf => pss_one (ps_set (i := 2) sc_ran.nd rfl (.inl rfl) pe_str)) .nil)))
    (pss_one (ps_ret (pe_lst (pa_cons (pv 2) (pa_cons (pv 3) pa_nil))))))), ?_⟩
  refine ⟨_, rfl, _, rfl, v, p, M, rfl, hp, pr, hM, told.imp (fun h d q H1 z s1 R => ?_) (fun q H1 s1 => ?_)⟩
  · refine ⟨_, rfl, _, rfl, len2, fun l hl => ?_⟩
    have s2 := same_new hl (.lst [.str "", .ref z])
    exact q _ l z (s1.trans s2) (R.same s2) upd_same
  · refine ⟨true, xMM, fun _ a0 _ => ?_, fun z => nomatch z⟩
    refine ⟨_, rfl, _, rfl, len2, fun l hl => ?_⟩
    have s2 := same_new hl (.lst [.str "mark", .non])
    exact q _ l (s1.trans s2) upd_same
end
end TH
set_option Elab.async false
set_option linter.all false
set_option maxRecDepth 100000
set_option maxHeartbeats 4000000
namespace TH
open PySem PySem.Spec PyProof.Rows L2
abbrev sMixed : Stmt := top 30
abbrev sRow : Stmt := top 31
abbrev sCell : Stmt := top 32
abbrev sDeck : Stmt := top 33
abbrev sNext : Stmt := top 34
def spMixed : Sp := fun vs H Q _ => ∃ (c k : Int), vs = [.int c, .int k] ∧ 0 ≤ k ∧ k ≤ 100 ∧ ∀ r, Q (.int r) H
def spRow : Sp := fun vs H Q _ => ∃ (c : Int), vs = [.int c, .int 1000, .int 8] ∧ ∀ (l : Addr) (ds : List Int) H', Same H H' → H' l = some (.lst (ds.map V.int)) → ds.length = 8 → Q (.ref l) H'
def spCell (K : PySem.W.Frag) : Sp := fun vs H Q _ => ∃ (a : Addr) (ns : List Int) (k : Int), vs = [.ref a, .int k] ∧ SqL K H a (ns.map V.int) ∧ ns.length ≤ 63 ∧ 0 ≤ k ∧ k ≤ 66 ∧ ∀ r, Q (.int r) H
def spDeck (K : PySem.W.Frag) : Sp := fun vs H Q _ => ∃ (a : Addr) (ns : List Int), vs = [.ref a, .int 1] ∧ SqL K H a (ns.map V.int) ∧ ns.length ≤ 63 ∧
  ∀ (l : Addr) (ds : List Int) H', H l = none → Same H H' → H' l = some (.lst (ds.map V.int)) → ds.length ≤ 600 → Q (.ref l) H'
abbrev M61 : Int := 2305843009213693951
theorem mod_bd (x : Int) : -(2 ^ 64) < x % 2305843009213693951 ∧ x % 2305843009213693951 < 2 ^ 64 := by omega
abbrev nRow : List Str := ["_law_cell_here", "_law_most_here", "_law_many", "_law_found", "_law_rest", "_law_k"]
section
variable {P : Program} {w : World} {K : PySem.W.Frag} {mg : Str → Option Value} {base : Heap}
theorem sc_mixed : FnScope ["_law_cell_here", "_law_k", "_law_number"] ["_law_cell_here", "_law_k"] (defScope sMixed) := ⟨rfl, rfl, rfl, by decide +kernel, rfl, by decide +kernel, by decide +kernel⟩
theorem ok_mixed {f : Addr} {fd : FuncData} (F : Fun K "_law_mixed" "_law_mixed" sMixed f fd) : FnOk P w K mg base CX0 1 f fd ["_law_cell_here", "_law_k"] spMixed := by
  refine F.ok sc_mixed (fun vs H Q E h => ?_) (fun cdv A outer s H vs Q E hr h => ?_)
  · obtain ⟨c, k, rfl, _⟩ := h
    rfl
  obtain ⟨c, k, rfl, k0, k1, q⟩ := h
  refine ⟨_, (pss_cons (ps_set (i := 2) sc_mixed.nd rfl (.inl rfl) (pe_op op_mod (pe_op op_add (pe_op op_add (pv 0) (pe_op op_mul (pe_op op_mul (pv 1) (pv 1)) pe_int)) pe_int) pe_int))
    (pss_cons (ps_set (i := 2) sc_mixed.nd rfl (.inl rfl) (pe_op op_mod (pe_op op_mul (pv 2) (pv 2)) pe_int))
    (pss_cons (ps_set (i := 2) sc_mixed.nd rfl (.inl rfl) (pe_op op_mod (pe_op op_mul (pe_op op_add (pe_op op_add (pv 2) (pe_op op_mul (pv 1) pe_int)) pe_int) pe_int) pe_int))
    (pss_one (ps_ret (pe_op op_fdiv (pe_op op_mod (pe_op op_mul (pv 2) (pv 2)) pe_int) pe_int)))))), ?_⟩
  refine ⟨_, rfl, _, rfl, _, rfl, _, _, rfl, rfl, .inl ⟨by omega, by omega⟩, _, _, rfl, rfl, .inr ⟨by decide, by decide⟩, _, _, rfl, rfl, _, _, rfl, rfl, _, _, rfl, rfl, (by show (0 : Int) < 2305843009213693951; decide), ?_⟩
  refine ⟨_, rfl, _, rfl, _, _, rfl, rfl, .inl (mod_bd _), _, _, rfl, rfl, (by show (0 : Int) < 2305843009213693951; decide), ?_⟩
  refine ⟨_, rfl, _, rfl, _, _, rfl, rfl, .inr ⟨by decide, by decide⟩, _, _, rfl, rfl, _, _, rfl, rfl, _, _, rfl, rfl, .inr ⟨by decide, by decide⟩, _, _, rfl, rfl, (by show (0 : Int) < 2305843009213693951; decide), ?_⟩
  refine ⟨_, rfl, _, rfl, _, _, rfl, rfl, .inl (mod_bd _), _, _, rfl, rfl, (by show (0 : Int) < 2305843009213693951; decide), _, _, rfl, rfl, ⟨by decide, by decide⟩, ?_⟩
  exact q _
theorem sc_row : FnScope nRow ["_law_cell_here", "_law_most_here", "_law_many"] (defScope sRow) := ⟨rfl, rfl, rfl, by decide +kernel, rfl, by decide +kernel, by decide +kernel⟩
theorem ok_row {f fM : Addr} {fd fdM : FuncData} (F : Fun K "_law_row" "_law_row" sRow f fd) (B0 : Bl mg) (DM : Dn P w K mg base CX0 1 "_law_mixed" fM fdM ["_law_cell_here", "_law_k"] spMixed) :
    FnOk P w K mg base CX0 2 f fd ["_law_cell_here", "_law_most_here", "_law_many"] spRow := by
  refine F.ok sc_row (fun vs H Q E h => ?_) (fun cdv A outer s H vs Q E hr h => ?_)
  · obtain ⟨c, rfl, _⟩ := h
    rfl
  obtain ⟨c, rfl, q⟩ := h
  refine ⟨_, (pss_cons (ps_set (i := 3) sc_row.nd rfl (.inl rfl) (pe_lst pa_nil))
    (pss_cons (ps_set (i := 4) sc_row.nd rfl (.inl rfl) (pv 0))
    (pss_cons (ps_for PassesOwn.never rfl (pi_range1 rfl B0.range (pa_cons (pv 2) pa_nil)) (pg_name (i := 5) sc_row.nd rfl (.inl rfl)) (pss_cons (ps_expr (pe_bm PySem.F.plainAttrs_list PySem.F.slot_list_append PySem.F.type_list_append mt_append (pv 3) (pa_cons (pe_op op_mod (pv 4) (pv 1)) pa_nil)))
    (pss_one (ps_set (i := 4) sc_row.nd rfl (.inl rfl) (pe_op op_fdiv (pv 4) (pv 1))))))
    (pss_cons (ps_if (pt_cmpR op_gt (pv 4) pe_int (nomark _)) (pss_one (ps_ret (pv 3))) pss_nil)
    (pss_one (ps_ret (pe_lc (own := [("_law_k", 5)]) (g := (gName 5)) (by rfl) sc_row.nd (pi_range1 rfl B0.range (pa_cons (pv 2) pa_nil)) (blkOk_by (N := nRow) (sc := defScope sRow) (by decide +kernel)) (fun _ _ _ _ _ => by exact (pg_name (i := 5) sc_row.nd rfl (.inl rfl))) (fun _ _ _ _ _ => pts_nil) (fun _ _ _ _ _ => by exact (pe_op op_mod (dn_call DM hr (by omega) rfl pass0 (pa_cons (pv 0) (pa_cons (pv 5) pa_nil))) (pv 1)))))))))), ?_⟩
  refine ⟨Nat.zero_le _, fun L hL => ?_⟩
  refine ⟨_, rfl, _, rfl, 8, rfl, by decide, by decide, for_range (lo := 0) (n := 8) (fun i σ H2 => ∃ (r : Int) (ko : Option V) (ds : List Int), σ = [some (.int c), some (.int 1000), some (.int 8), some (.ref L), some (.int r), ko] ∧ Same H H2 ∧ H2 L = some (.lst (ds.map V.int)) ∧ ds.length = i)
    ⟨c, none, [], rfl, same_new hL _, upd_same, rfl⟩ ?_ ?_⟩
  · rintro i σ H2 hi ⟨r, ko, ds, rfl, s2, hl, hdl⟩
    refine ⟨_, rfl, .inl ⟨rfl, _, SqL.of hl⟩, _, rfl, _, rfl, _, _, rfl, rfl, (by show (0 : Int) < 1000; decide), L, _, _, rfl, rfl, hl, small1000 (by rw [List.length_map]; omega), ?_⟩
    refine ⟨_, rfl, _, rfl, _, _, rfl, rfl, ⟨by decide, by decide⟩, ?_⟩
    refine ⟨_, _, ds ++ [r % 1000], rfl, fun b o e => ?_, ?_, by rw [List.length_append, hdl]; rfl⟩
    · rw [upd_ne (ne_of_none e hL)]
      exact s2 _ _ e
    · rw [upd_same, List.map_append]
      rfl
  · rintro σ H2 ⟨r, ko, ds, rfl, s2, hl, hdl⟩
    refine ⟨_, rfl, _, _, rfl, rfl, _, rfl, ifd (fun _ => ?_) fun _ => ?_⟩
    · exact ⟨_, rfl, q L ds H2 s2 hl hdl⟩
    · refine ⟨_, rfl, 8, rfl, by decide, by decide, fun D hD => lc_range (lo := 0) (n := 8) (fun i H3 => ∃ ds : List Int, Same H2 H3 ∧ H3 D = some (.lst (ds.map V.int)) ∧ ds.length = i)
        ⟨[], same_new hD _, upd_same, rfl⟩ ?_ ?_⟩
      · rintro i H3 hi ⟨ds2, s3, hl3, hdl3⟩
        refine ⟨rfl, _, rfl, _, rfl, c, 0 + (i : Int), rfl, by omega, by omega, fun z => ?_⟩
        refine ⟨_, rfl, _, _, rfl, rfl, (by show (0 : Int) < 1000; decide), _, hl3, small1000 (by rw [List.length_map]; omega), ds2 ++ [z % 1000], fun b o e => ?_, ?_, by rw [List.length_append, hdl3]; rfl⟩
        · rw [upd_ne (ne_of_none e hD)]
          exact s3 _ _ e
        · rw [upd_same, List.map_append]
          rfl
      · rintro H3 ⟨ds2, s3, hl3, hdl3⟩
        exact q D ds2 H3 (s2.trans s3) hl3 hdl3
theorem sc_cell : FnScope ["_law_script", "_law_k", "_law_number"] ["_law_script", "_law_k"] (defScope sCell) := ⟨rfl, rfl, rfl, by decide +kernel, rfl, by decide +kernel, by decide +kernel⟩
theorem at_ints {ns : List Int} {k : Int} (h0 : 0 ≤ k) (h : k < (ns.length : Int)) : ∃ z : Int, atI (ns.map V.int) k = some (.int z) := by
  have hk : k.toNat < ns.length := by omega
  exact ⟨ns[k.toNat], at_of (show k = ((k.toNat : Nat) : Int) by omega) (by rw [List.getElem?_map, List.getElem?_eq_getElem hk]; rfl)⟩
theorem sq_bd {k : Int} (k0 : 0 ≤ k) (k1 : k ≤ 66) : 0 ≤ k * k ∧ k * k ≤ 4356 := by
  have h1 : k * k ≤ 66 * 66 := Int.mul_le_mul k1 k1 k0 (by decide)
  exact ⟨Int.mul_nonneg k0 k0, by omega⟩
theorem big_bd {k r : Int} (k0 : 0 ≤ k) (k1 : k ≤ 66) (r0 : 0 ≤ r) (r1 : r < 10000000000000000000000000000000000000000) : 0 ≤ r * (48271 + k) ∧ r * (48271 + k) ≤ 483370000000000000000000000000000000000000000 := by
  have h1 : r * (48271 + k) ≤ 10000000000000000000000000000000000000000 * 48337 := Int.mul_le_mul (by omega) (by omega) (by omega) (by decide)
  exact ⟨Int.mul_nonneg r0 (by omega), by omega⟩
theorem ok_cell {f : Addr} {fd : FuncData} (F : Fun K "_law_cell" "_law_cell" sCell f fd) (B0 : Bl mg) : FnOk P w K mg base CX0 1 f fd ["_law_script", "_law_k"] (spCell K) := by
  refine F.ok sc_cell (fun vs H Q E h => ?_) (fun cdv A outer s H vs Q E hr h => ?_)
  · obtain ⟨a, ns, k, rfl, _⟩ := h
    rfl
  obtain ⟨a, ns, k, rfl, hS, hl, k0, k1, q⟩ := h
  refine ⟨_, (pss_cons (ps_if (pt_cmpR op_lt (pv 1) (pe_callB call_len_seq (by rfl) B0.len (by decide +kernel) (pa_cons (pv 0) pa_nil)) (nomark _)) (pss_one (ps_ret (pe_ix ix_list (pv 0) (pv 1) (fun _ _ => rfl)))) pss_nil)
    (pss_cons (ps_set (i := 2) sc_cell.nd rfl (.inl rfl) (pe_op op_add (pe_op op_mul (pe_op op_mul (pv 1) (pv 1)) pe_int) pe_int))
    (pss_cons (ps_if (pt_cmpR op_gt (pe_callB call_len_seq (by rfl) B0.len (by decide +kernel) (pa_cons (pv 0) pa_nil)) pe_int (nomark _)) (pss_one (ps_set (i := 2) sc_cell.nd rfl (.inl rfl) (pe_op op_add (pv 2) (pe_op op_mul (pe_op op_mod (pe_ix ix_list (pv 0) (pe_op op_mod (pe_op op_mul (pv 1) pe_int) (pe_callB call_len_seq (by rfl) B0.len (by decide +kernel) (pa_cons (pv 0) pa_nil))) (fun _ _ => rfl)) (pe_op op_pow pe_int pe_int)) (pe_op op_add pe_int (pv 1)))))) pss_nil)
    (pss_one (ps_ret (pe_op op_mod (pe_op op_mulW (pv 2) (pv 2)) pe_int)))))), ?_⟩
  have len : ∀ {A B : Int → Prop}, (∀ n : Int, n = (ns.length : Int) → A n) → A (((ns.map V.int).length : Nat) : Int) := fun h => h _ (by rw [List.length_map])
  have eL : (((ns.map V.int).length : Nat) : Int) = (ns.length : Int) := by rw [List.length_map]
  obtain ⟨b1, b2⟩ := sq_bd k0 k1
  refine ⟨_, rfl, _, rfl, a, _, rfl, .inl hS, _, _, rfl, rfl, _, rfl, ifd (fun c => ?_) fun c => ?_⟩
  · rw [eL] at c
    obtain ⟨z, hz⟩ := at_ints (ns := ns) k0 c
    exact ⟨_, rfl, _, rfl, a, _, _, _, rfl, rfl, hS, hz, q z⟩
  · rw [eL] at c
    refine ⟨_, rfl, _, rfl, _, _, rfl, rfl, .inl ⟨by omega, by omega⟩, _, _, rfl, rfl, .inr ⟨by decide, by decide⟩, _, _, rfl, rfl, ?_⟩
    refine ⟨_, rfl, a, _, rfl, .inl hS, _, _, rfl, rfl, _, rfl, ifd (fun c2 => ?_) fun c2 => ?_⟩
    · rw [eL] at c2
      have hm0 : 0 ≤ (k * 7) % (ns.length : Int) := Int.emod_nonneg _ (by omega)
      have hm1 : (k * 7) % (ns.length : Int) < (ns.length : Int) := Int.emod_lt_of_pos _ (by omega)
      obtain ⟨z, hz⟩ := at_ints (ns := ns) hm0 hm1
      refine ⟨_, rfl, _, rfl, _, rfl, _, _, rfl, rfl, .inr ⟨by decide, by decide⟩, _, rfl, a, _, rfl, .inl hS, _, _, rfl, rfl, (by rw [eL]; exact c2), a, _, _, _, rfl, rfl, hS, (by rw [eL]; exact hz), ?_⟩
      refine ⟨_, _, rfl, rfl, ⟨by decide, by decide, by decide⟩, _, _, rfl, rfl, (by show (0 : Int) < 10 ^ (40 : Int).toNat; decide), _, rfl, _, _, rfl, rfl, _, _, rfl, rfl, .inr ⟨by omega, by omega⟩, _, _, rfl, rfl, ?_⟩
      have e40 : (10 : Int) ^ (40 : Int).toNat = 10000000000000000000000000000000000000000 := by decide
      have r0 : 0 ≤ z % (10 : Int) ^ (40 : Int).toNat := Int.emod_nonneg _ (by rw [e40]; decide)
      have r1 : z % (10 : Int) ^ (40 : Int).toNat < 10000000000000000000000000000000000000000 := by rw [e40]; exact Int.emod_lt_of_pos _ (by decide)
      obtain ⟨g1, g2⟩ := big_bd k0 k1 r0 r1
      have nb : (k * k * 7919 + 104729 + z % (10 : Int) ^ (40 : Int).toNat * (48271 + k)).natAbs < 2 ^ 200 := by
        generalize z % (10 : Int) ^ (40 : Int).toNat * (48271 + k) = y at g1 g2 ⊢
        generalize k * k = x at b1 b2 ⊢
        omega
      exact ⟨_, rfl, _, rfl, _, _, rfl, rfl, wide_mul (a := 200) (b := 200) nb nb (by decide) (by decide) (by decide), _, _, rfl, rfl, (by show (0 : Int) < 2305843009213693951; decide), q _⟩
    · have nb : (k * k * 7919 + 104729).natAbs < 2 ^ 200 := by
        generalize k * k = x at b1 b2 ⊢
        omega
      exact ⟨_, rfl, _, rfl, _, _, rfl, rfl, wide_mul (a := 200) (b := 200) nb nb (by decide) (by decide) (by decide), _, _, rfl, rfl, (by show (0 : Int) < 2305843009213693951; decide), q _⟩
end
end TH
set_option Elab.async false
set_option linter.all false
set_option maxRecDepth 100000
set_option maxHeartbeats 4000000
namespace TH
open PySem PySem.Spec PyProof.Rows L2
abbrev sAmt : Stmt := top 35
abbrev sMarkG : Stmt := top 39
/-- the deck at d holds so many ints -/
def DkAt (H : Hp) (d : Addr) (n : Nat) : Prop := ∃ ds : List Int, H d = some (.lst (ds.map V.int)) ∧ ds.length = n
/-- the deck alone has changed, things are new -/
structure Gm (d : Addr) (H H' : Hp) : Prop where
  keep : ∀ b o, b ≠ d → H b = some o → H' b = some o
  tups : Tups H H'
theorem Gm.refl (d : Addr) (H : Hp) : Gm d H H := ⟨fun _ _ _ h => h, Tups.refl _⟩
theorem Gm.trans {d : Addr} {H H1 H2 : Hp} (a : Gm d H H1) (b : Gm d H1 H2) : Gm d H H2 := ⟨fun c o n h => b.keep c o n (a.keep c o n h), a.tups.trans b.tups⟩
theorem Gm.same {d : Addr} {H H' : Hp} (s : Same H H') : Gm d H H' := ⟨fun b o _ h => s b o h, Tups.same s⟩
theorem DkAt.same {H H' : Hp} {d : Addr} {n : Nat} (h : DkAt H d n) (s : Same H H') : DkAt H' d n := let ⟨ds, e, l⟩ := h; ⟨ds, s _ _ e, l⟩
/-- a list of one's own is kept through a change of the deck -/
def spNext : Sp := fun vs H Q _ => ∃ (d : Addr) (n : Nat), vs = [.ref d] ∧ DkAt H d n ∧ ∀ r n' H', Gm d H H' → DkAt H' d n' → n' ≤ n → (0 < n → n' < n) → Q (.int r) H'
def spAmt (K : PySem.W.Frag) : Sp := fun vs H Q _ => ∃ (d : Addr) (n t : Nat) (ins : Bool), vs = [.ref d, .bl ins, .int t] ∧ DkAt H d n ∧ t ≤ 4 ∧ ∀ v a n' H', Gm d H H' → DkAt H' d n' → n' ≤ n → Tp K H' (encA a) v → AmOk t ins a → Q v H'
def spMarkG : Sp := fun vs H Q _ => ∃ (d : Addr) (n : Nat), vs = [.ref d] ∧ DkAt H d n ∧ n ≤ 1000 ∧ ∀ r n' H', Gm d H H' → DkAt H' d n' → n' ≤ n → 0 ≤ r → r ≤ 9 → Q (.int r) H'
section
variable {P : Program} {w : World} {K : PySem.W.Frag} {mg : Str → Option Value} {base : Heap}
theorem sc_deck : FnScope ["_law_script", "_law_start", "_law_deck_here", "_law_k"] ["_law_script", "_law_start"] (defScope sDeck) := ⟨rfl, rfl, rfl, by decide +kernel, rfl, by decide +kernel, by decide +kernel⟩
theorem ok_deck {f fR fC : Addr} {fd fdR fdC : FuncData} (F : Fun K "_law_deck" "_law_deck" sDeck f fd) (B0 : Bl mg) (DR : Dn P w K mg base CX0 2 "_law_row" fR fdR ["_law_cell_here", "_law_most_here", "_law_many"] spRow)
    (DC : Dn P w K mg base CX0 1 "_law_cell" fC fdC ["_law_script", "_law_k"] (spCell K)) : FnOk P w K mg base CX0 3 f fd ["_law_script", "_law_start"] (spDeck K) := by
  refine F.ok sc_deck (fun vs H Q E h => ?_) (fun cdv A outer s H vs Q E hr h => ?_)
  · obtain ⟨a, ns, rfl, _⟩ := h
    rfl
  obtain ⟨a, ns, rfl, hS, hl, q⟩ := h
  refine ⟨_, (pss_cons (ps_set (i := 2) sc_deck.nd rfl (.inl rfl) (pe_lst pa_nil))
    (pss_cons (ps_for PassesOwn.never rfl (pi_range2 rfl B0.range (pa_cons (pv 1) (pa_cons (pe_callB (call_max2 rfl) (by rfl) B0.max (by decide +kernel) (pa_cons (pe_op op_add (pv 1) pe_int) (pa_cons (pe_callB (call_min2 rfl) (by rfl) B0.min (by decide +kernel) (pa_cons pe_int (pa_cons (pe_callB call_len_seq (by rfl) B0.len (by decide +kernel) (pa_cons (pv 0) pa_nil)) pa_nil))) pa_nil))) pa_nil))) (pg_name (i := 3) sc_deck.nd rfl (.inl rfl)) (pss_one (ps_set (i := 2) sc_deck.nd rfl (.inl rfl) (pe_op op_cat (pv 2) (dn_call DR hr (by omega) rfl pass0 (pa_cons (dn_call DC hr (by omega) rfl pass0 (pa_cons (pv 0) (pa_cons (pv 3) pa_nil))) (pa_cons pe_int (pa_cons pe_int pa_nil))))))))
    (pss_one (ps_ret (pe_lstRev rfl (by rfl) B0.list (by rfl) B0.rev (pv 2)))))), ?_⟩
  refine ⟨Nat.zero_le _, fun L hL => ?_⟩
  have s0 := same_new hL (.lst [])
  have hi : ∀ x : Int, x = (if (if ((((ns.map V.int).length : Nat) : Int)) < 63 then (((ns.map V.int).length : Nat) : Int) else 63) > 1 + 4 then (if ((((ns.map V.int).length : Nat) : Int)) < 63 then (((ns.map V.int).length : Nat) : Int) else 63) else 1 + 4) → 0 ≤ x ∧ x ≤ 63 := by
    intro x e
    subst e
    rw [List.length_map]
    split <;> split <;> omega
  refine ⟨_, rfl, _, rfl, _, _, rfl, rfl, _, rfl, a, _, rfl, .inl ((s0.seq hS)), 63, _, rfl, _, _, rfl, _, _, rfl, ?_⟩
  obtain ⟨h0, h63⟩ := hi _ rfl
  generalize (if (if ((((ns.map V.int).length : Nat) : Int)) < 63 then (((ns.map V.int).length : Nat) : Int) else 63) > 1 + 4 then (if ((((ns.map V.int).length : Nat) : Int)) < 63 then (((ns.map V.int).length : Nat) : Int) else 63) else 1 + 4) = hiv at h0 h63
  refine ⟨⟨by decide, by decide, by omega, by omega⟩, for_range (lo := 1) (n := (hiv - 1).toNat) (fun i σ H2 => ∃ (D : Addr) (ko : Option V) (ds : List Int), σ = [some (.ref a), some (.int 1), some (.ref D), ko] ∧ Same H H2 ∧ H2 D = some (.lst (ds.map V.int)) ∧ ds.length = 8 * i)
    ⟨L, none, [], rfl, s0, upd_same, rfl⟩ ?_ ?_⟩
  · rintro i σ H2 hi ⟨D, ko, ds, rfl, s2, hd, hdl⟩
    refine ⟨_, rfl, _, rfl, _, rfl, a, ns, 1 + (i : Int), rfl, s2.seq hS, hl, by omega, by omega, fun r => ?_⟩
    refine ⟨r, rfl, fun l es H3 s3 hl3 hel => ?_⟩
    refine ⟨D, l, _, _, rfl, rfl, s3 _ _ hd, hl3, ?_, fun p hp => ?_⟩
    · rw [List.length_map, List.length_map]
      exact Nat.le_of_lt (small1000 (by omega))
    · have s4 := same_new hp (.lst (ds.map V.int ++ es.map V.int))
      refine ⟨p, _, ds ++ es, rfl, s2.trans (s3.trans s4), ?_, by rw [List.length_append]; omega⟩
      rw [upd_same, List.map_append]
  · rintro σ H2 ⟨D, ko, ds, rfl, s2, hd, hdl⟩
    refine ⟨_, rfl, D, _, rfl, SqL.of hd, fun p hp => ?_⟩
    have s3 := same_new hp (.lst (ds.map V.int).reverse)
    refine q p ds.reverse _ (s2.free hp) (s2.trans s3) (by rw [upd_same, List.map_reverse]) (by rw [List.length_reverse]; omega)
theorem sc_next : FnScope ["_law_deck_here"] ["_law_deck_here"] (defScope sNext) := ⟨rfl, rfl, rfl, by decide +kernel, rfl, by decide +kernel, by decide +kernel⟩
theorem ok_next {f : Addr} {fd : FuncData} (F : Fun K "_law_next" "_law_next" sNext f fd) (B0 : Bl mg) : FnOk P w K mg base CX0 1 f fd ["_law_deck_here"] spNext := by
  refine F.ok sc_next (fun vs H Q E h => ?_) (fun cdv A outer s H vs Q E hr h => ?_)
  · obtain ⟨d, n, rfl, _⟩ := h
    rfl
  obtain ⟨d, n, rfl, ⟨ds, hd, hn⟩, q⟩ := h
  refine ⟨_, (pss_cons (ps_if (pt_cmpR op_eq (pe_callB call_len_seq (by rfl) B0.len (by decide +kernel) (pa_cons (pv 0) pa_nil)) pe_int (nomark _)) (pss_one (ps_ret pe_int)) pss_nil)
    (pss_one (ps_ret (pe_bm0 PySem.F.plainAttrs_list PySem.F.slot_list_pop PySem.F.type_list_pop mt_pop (pv 0))))), ?_⟩
  refine ⟨_, rfl, d, _, rfl, .inl (SqL.of hd), rfl, _, rfl, ifi_of (fun c => ?_) (fun c => ?_)⟩
  · rw [List.length_map] at c
    exact q 0 n H (Gm.refl _ _) ⟨ds, hd, hn⟩ (Nat.le_refl _) (fun z => by omega)
  · rw [List.length_map] at c
    have hk : ds.length - 1 < ds.length := by omega
    refine ⟨_, rfl, .inl ⟨rfl, _, SqL.of hd⟩, d, _, .int ds[ds.length - 1], rfl, rfl, hd, ?_, ?_⟩
    · rw [List.length_map, List.getElem?_map, List.getElem?_eq_getElem hk]
      rfl
    · refine q _ (n - 1) _ ⟨fun b o nb e => by rw [upd_ne nb]; exact e, tups_upd hd nt_lst⟩ ⟨ds.dropLast, ?_, by rw [List.length_dropLast, hn]⟩ (by omega) (fun z => by omega)
      rw [upd_same, List.map_dropLast]
theorem sc_amt : FnScope ["_law_deck_here", "_law_inside", "_law_takes", "_law_kind"] ["_law_deck_here", "_law_inside", "_law_takes"] (defScope sAmt) := ⟨rfl, rfl, rfl, by decide +kernel, rfl, by decide +kernel, by decide +kernel⟩
theorem nm_len (i : Int) (h0 : 0 ≤ i) (h4 : i < 4) : (("n" : Str)).length + (toString i : Str).length ≤ sizeLine ∧ i.natAbs.log2 < 1920 ∧ ("n" : Str) ++ (toString i : Str) = Src.name (.n i.toNat) := by
  have : i = 0 ∨ i = 1 ∨ i = 2 ∨ i = 3 := by omega
  rcases this with rfl | rfl | rfl | rfl
  · exact ⟨Nat.le_of_lt (small1000 (by decide +kernel)), by decide +kernel, rfl⟩
  · exact ⟨Nat.le_of_lt (small1000 (by decide +kernel)), by decide +kernel, rfl⟩
  · exact ⟨Nat.le_of_lt (small1000 (by decide +kernel)), by decide +kernel, rfl⟩
  · exact ⟨Nat.le_of_lt (small1000 (by decide +kernel)), by decide +kernel, rfl⟩
theorem ok_amt {f fN : Addr} {fd fdN : FuncData} (F : Fun K "_law_amount" "_law_amount" sAmt f fd) (B0 : Bl mg) (DN : Dn P w K mg base CX0 1 "_law_next" fN fdN ["_law_deck_here"] spNext) :
    FnOk P w K mg base CX0 2 f fd ["_law_deck_here", "_law_inside", "_law_takes"] (spAmt K) := by
  refine F.ok sc_amt (fun vs H Q E h => ?_) (fun cdv A outer s H vs Q E hr h => ?_)
  · obtain ⟨d, n, t, ins, rfl, _⟩ := h
    rfl
  obtain ⟨d, n, t, ins, rfl, hd, ht, q⟩ := h
  refine ⟨_, (pss_cons (ps_set (i := 3) sc_amt.nd rfl (.inl rfl) (dn_call DN hr (by omega) rfl pass0 (pa_cons (pv 0) pa_nil)))
    (pss_cons (ps_if (PW.pt (pw_and (pt_cmpR op_eq (pe_op op_mod (pv 3) pe_int) pe_int (nomark _)) (pw_and1 (pt_val (pv 1))))) (pss_one (ps_ret (pe_tup (pa_cons (pe_op op_sub (pe_op op_mod (pe_op op_fdiv (pv 3) pe_int) pe_int) pe_int) (pa_cons pe_str (pa_cons (pe_op op_sub (pe_op op_mod (dn_call DN hr (by omega) rfl pass0 (pa_cons (pv 0) pa_nil)) pe_int) pe_int) pa_nil)))))) pss_nil)
    (pss_cons (ps_if (PW.pt (pw_and (pt_cmpR op_eq (pe_op op_mod (pv 3) pe_int) pe_int (nomark _)) (pw_and1 (pt_cmpR op_gt (pv 2) pe_int (nomark _))))) (pss_one (ps_ret (pe_tup (pa_cons (pe_op op_sub (pe_op op_mod (pe_op op_fdiv (pv 3) pe_int) pe_int) pe_int) (pa_cons (pe_op op_add_str pe_str (pe_callTy call_str_int (by rfl) B0.str (by decide +kernel) (pa_cons (pe_op op_mod (dn_call DN hr (by omega) rfl pass0 (pa_cons (pv 0) pa_nil)) (pv 2)) pa_nil))) (pa_cons (pe_op op_sub (pe_op op_mod (dn_call DN hr (by omega) rfl pass0 (pa_cons (pv 0) pa_nil)) pe_int) pe_int) pa_nil)))))) pss_nil)
    (pss_one (ps_ret (pe_op op_sub (pe_op op_mod (pe_op op_fdiv (pv 3) pe_int) pe_int) pe_int)))))), ?_⟩
  refine ⟨_, rfl, d, n, rfl, hd, fun r n1 H1 g1 d1 l1 _ => ?_⟩
  have last : Q (.int (r / 4 % 19 - 9)) H1 := q _ (.lit (r / 4 % 19 - 9)) n1 H1 g1 d1 l1 tp_int ⟨by omega, by omega⟩
  have third : (¬ (0 : Int) < (t : Int) ∨ ¬ r % 4 = 1) → Q (.int (r / 4 % 19 - 9)) H1 := fun _ => last
  -- the second way
  have second : ∀ (z : Int) (n2 : Nat) (H2 : Hp), 0 < t → Gm d H1 H2 → DkAt H2 d n2 → n2 ≤ n1 → ∀ (y : Int) (n3 : Nat) (H3 : Hp), Gm d H2 H3 → DkAt H3 d n3 → n3 ≤ n2 →
      ∀ p, H3 p = none → Q (.ref p) (upd H3 p (.tup [.int (r / 4 % 7 - 3), .str (("n" : Str) ++ (toString (z % (t : Int)) : Str)), .int (y % 7 - 3)])) := by
    intro z n2 H2 t0 g2 d2 l2 y n3 H3 g3 d3 l3 p hp
    have z0 : 0 ≤ z % (t : Int) := Int.emod_nonneg _ (by omega)
    have z1 : z % (t : Int) < (t : Int) := Int.emod_lt_of_pos _ (by omega)
    have s4 := same_new hp (.tup [.int (r / 4 % 7 - 3), .str (("n" : Str) ++ (toString (z % (t : Int)) : Str)), .int (y % 7 - 3)])
    rw [(nm_len _ z0 (by omega)).2.2] at s4 ⊢
    exact q _ (.src (r / 4 % 7 - 3) (.n (z % (t : Int)).toNat) (y % 7 - 3)) n3 _ (g1.trans (g2.trans (g3.trans (Gm.same s4)))) (d3.same s4) (by omega) (tp_tup sqt_new (tpa_cons tp_int (tpa_cons tp_str (tpa_cons tp_int tpa_nil)))) ⟨by omega, by omega, by omega, by omega, by omega⟩
  refine ⟨_, rfl, _, _, rfl, rfl, (by show (0 : Int) < 4; decide), rfl, _, rfl, ?_⟩
  by_cases c1 : r % 4 = 0 ∧ ins = true
  · obtain ⟨c0, c2⟩ := c1
    subst c2
    rw [decide_eq_true (congrArg V.int c0)]
    refine ⟨_, rfl, _, rfl, ?_⟩
    refine ⟨_, rfl, _, _, rfl, rfl, ⟨by decide, by decide⟩, _, _, rfl, rfl, (by show (0 : Int) < 7; decide), _, _, rfl, rfl, _, rfl, d, n1, rfl, d1, fun y n2 H2 g2 d2 l2 _ => ?_⟩
    refine ⟨_, _, rfl, rfl, (by show (0 : Int) < 7; decide), _, _, rfl, rfl, len3, fun p hp => ?_⟩
    have s3 := same_new hp (.tup [.int (r / 4 % 7 - 3), .str "count", .int (y % 7 - 3)])
    exact q _ (.src (r / 4 % 7 - 3) .count (y % 7 - 3)) n2 _ (g1.trans (g2.trans (Gm.same s3))) (d2.same s3) (by omega) (tp_tup sqt_new (tpa_cons tp_int (tpa_cons tp_str (tpa_cons tp_int tpa_nil)))) ⟨rfl, by omega, by omega, by omega, by omega⟩
  · have skip : ∀ {T U : Prop}, U → (if decide (V.int (r % 4) = V.int 0) = true then (∃ v, some (some (V.bl ins)) = some (some v) ∧ ∃ c, v = .bl c ∧ if c = true then T else U) else U) := by
      intro T U hu
      refine ifi_of (fun c => ⟨_, rfl, ins, rfl, ?_⟩) (fun _ => hu)
      cases ins with
      | true => exact absurd ⟨c, rfl⟩ c1
      | false => rw [if_neg Bool.false_ne_true]; exact hu
    refine skip ?_
    refine ⟨_, rfl, _, _, rfl, rfl, (by show (0 : Int) < 4; decide), rfl, _, rfl, ?_⟩
    have fin : ∃ v, some (some (V.int r)) = some (some v) ∧ ∃ i j : Int, v = .int i ∧ V.int 4 = .int j ∧ (0 < j ∧ j < 1073741824) ∧ ∃ i2 j2 : Int, V.int (i / j) = .int i2 ∧ V.int 19 = .int j2 ∧ 0 < j2 ∧ ∃ i3 j3 : Int, V.int (i2 % j2) = .int i3 ∧ V.int 9 = .int j3 ∧ Q (.int (i3 - j3)) H1 :=
      ⟨_, rfl, _, _, rfl, rfl, ⟨by decide, by decide⟩, _, _, rfl, rfl, by decide, _, _, rfl, rfl, last⟩
    refine ifi_of (fun c => ?_) (fun c => fin)
    refine ⟨_, rfl, _, _, rfl, rfl, _, rfl, ifd (fun t0 => ?_) (fun _ => fin)⟩
    refine ⟨_, rfl, _, _, rfl, rfl, ⟨by decide, by decide⟩, _, _, rfl, rfl, (by show (0 : Int) < 7; decide), _, _, rfl, rfl, ?_⟩
    refine ⟨_, rfl, d, n1, rfl, d1, fun z n2 H2 g2 d2 l2 _ => ?_⟩
    have t0 : 0 < t := by omega
    have z0 : 0 ≤ z % (t : Int) := Int.emod_nonneg _ (by omega)
    have z1 : z % (t : Int) < (t : Int) := Int.emod_lt_of_pos _ (by omega)
    obtain ⟨e1, e2, _⟩ := nm_len _ z0 (by omega)
    refine ⟨_, rfl, _, _, rfl, rfl, (by show (0 : Int) < (t : Int); omega), _, rfl, e2, _, _, rfl, rfl, e1, ?_⟩
    refine ⟨_, rfl, d, n2, rfl, d2, fun y n3 H3 g3 d3 l3 _ => ?_⟩
    refine ⟨_, _, rfl, rfl, (by show (0 : Int) < 7; decide), _, _, rfl, rfl, len3, fun p hp => ?_⟩
    exact second z n2 H2 t0 g2 d2 l2 y n3 H3 g3 d3 l3 p hp
theorem sc_markg : FnScope ["_law_deck_here", "_law_pair"] ["_law_deck_here"] (defScope sMarkG) := ⟨rfl, rfl, rfl, by decide +kernel, rfl, by decide +kernel, by decide +kernel⟩
theorem ok_markg {f fN : Addr} {fd fdN : FuncData} (F : Fun K "_law_mark" "_law_mark" sMarkG f fd) (DN : Dn P w K mg base CX0 1 "_law_next" fN fdN ["_law_deck_here"] spNext) :
    FnOk P w K mg base CX0 2 f fd ["_law_deck_here"] spMarkG := by
  refine F.ok sc_markg (fun vs H Q E h => ?_) (fun cdv A outer s H vs Q E hr h => ?_)
  · obtain ⟨d, n, rfl, _⟩ := h
    rfl
  obtain ⟨d, n, rfl, ⟨ds, hd, hn⟩, h1000, q⟩ := h
  refine ⟨_, (pss_cons (ps_set (i := 1) sc_markg.nd rfl (.inl rfl) (pe_op op_mod (pe_ix ix_list (pe_op op_cat (pv 0) (pe_lst (pa_cons pe_int pa_nil))) pe_int (fun _ _ => rfl)) pe_int))
    (pss_one (ps_ret (pe_ix ix_list (pe_lst (pa_cons (pe_op op_fdiv (pv 1) pe_int) (pa_cons (pe_op op_mod (pe_op op_add (pe_op op_add (pe_op op_fdiv (pv 1) pe_int) pe_int) (pe_op op_mod (pv 1) pe_int)) pe_int) pa_nil))) (pe_op op_mod (dn_call DN hr (by omega) rfl pass0 (pa_cons (pv 0) pa_nil)) pe_int) (fun _ _ => rfl))))), ?_⟩
  refine ⟨_, rfl, len1, fun l hl => ?_⟩
  have s1 := same_new hl (.lst [.int 0])
  refine ⟨d, l, _, _, rfl, rfl, s1 _ _ hd, upd_same, ?_, fun p hp => ?_⟩
  · rw [List.length_map]
    have z : ds.length + 1 ≤ 1001 := by omega
    show ds.length + 1 ≤ sizeLine
    rw [sizeLine_eq]
    exact Nat.le_trans z (by decide)
  have s2 := same_new hp (.lst (ds.map V.int ++ [.int 0]))
  obtain ⟨x, hx⟩ : ∃ x : Int, atI (ds.map V.int ++ [V.int 0]) 0 = some (.int x) := by
    cases ds with
    | nil => exact ⟨0, atI_nat (j := 0) rfl⟩
    | cons y r => exact ⟨y, atI_nat (j := 0) rfl⟩
  refine ⟨p, _, 0, .int x, rfl, rfl, SqL.of upd_same, hx, _, _, rfl, rfl, (by show (0 : Int) < 90; decide), ?_⟩
  refine ⟨_, rfl, _, _, rfl, rfl, ⟨by decide, by decide⟩, _, rfl, _, _, rfl, rfl, ⟨by decide, by decide⟩, _, _, rfl, rfl, _, rfl, _, _, rfl, rfl, (by show (0 : Int) < 9; decide), _, _, rfl, rfl, _, _, rfl, rfl, (by show (0 : Int) < 10; decide), len2, fun m hm => ?_⟩
  have s3 := same_new hm (.lst [.int (x % 90 / 9), .int ((x % 90 / 9 + 1 + x % 90 % 9) % 10)])
  have g3 : Gm d H _ := Gm.same (s1.trans (s2.trans s3))
  refine ⟨_, rfl, d, ds.length, rfl, ⟨ds, s3 _ _ (s2 _ _ (s1 _ _ hd)), rfl⟩, fun z n2 H4 g4 d4 l4 _ => ?_⟩
  have nd : m ≠ d := fun e => by
    rw [e, s2 _ _ (s1 _ _ hd)] at hm
    cases hm
  have hm4 := g4.keep m _ nd upd_same
  have hz : z % 2 = 0 ∨ z % 2 = 1 := by omega
  rcases hz with hz | hz
  · exact ⟨_, _, rfl, rfl, (by show (0 : Int) < 2; decide), m, _, _, _, rfl, rfl, SqL.of hm4, (by rw [hz]; exact atI_nat (j := 0) rfl), q _ n2 H4 (g3.trans g4) d4 (by omega) (by omega) (by omega)⟩
  · exact ⟨_, _, rfl, rfl, (by show (0 : Int) < 2; decide), m, _, _, _, rfl, rfl, SqL.of hm4, (by rw [hz]; exact atI_nat (j := 1) rfl), q _ n2 H4 (g3.trans g4) d4 (by omega) (by omega) (by omega)⟩
end
end TH
set_option Elab.async false
set_option linter.all false
set_option maxRecDepth 100000
set_option maxHeartbeats 4000000
namespace TH
open PySem PySem.Spec PyProof.Rows L2
abbrev sRounds : Stmt := top 36
abbrev sChoice : Stmt := top 37
abbrev sCallG : Stmt := top 38
/-- where statements are made: the deck, the words so far -/
structure MakeAt (K : PySem.W.Frag) (H : Hp) (d : Addr) (m : Nat) (wl : Addr) (ws : Ws) (t : Nat) : Prop where
  dk : DkAt H d m
  words : ∃ xs, H wl = some (.lst xs) ∧ TpAll K H (encWs 0 ws) xs
  ne : wl ≠ d
  few : ws.length ≤ 6
  many : ∀ w ∈ ws, w.1 ≤ 4
  t4 : t ≤ 4
  m1000 : m ≤ 1000
theorem MakeAt.gm {K : PySem.W.Frag} {H H' : Hp} {d : Addr} {m m' : Nat} {wl : Addr} {ws : Ws} {t : Nat} (G : MakeAt K H d m wl ws t) (g : Gm d H H') (dk : DkAt H' d m') (l : m' ≤ m) : MakeAt K H' d m' wl ws t :=
  ⟨dk, let ⟨xs, e, r⟩ := G.words; ⟨xs, g.keep _ _ G.ne e, TpAll.mono g.tups _ _ r⟩, G.ne, G.few, G.many, G.t4, Nat.le_trans l G.m1000⟩
abbrev arW (ws : Ws) : List Nat := ws.map (·.1)
def spBodyG (K : PySem.W.Frag) (n : Nat) : Sp := fun vs H Q _ => ∃ (d wl : Addr) (m t dd : Nat) (dp : Int) (ws : Ws) (ins : Bool), vs = [.ref d, .int dp, .bl ins, .int t, .ref wl] ∧ MakeAt K H d m wl ws t ∧ 0 ≤ dp ∧ dp + dd = 4 ∧ dd < n ∧
  ∀ v b m' H', Gm d H H' → DkAt H' d m' → m' ≤ m → (0 < m → m' < m) → Tp K H' (.tuple (encB b)) v → BOk (arW ws) t b dd ins → blen b ≤ 6 → Q v H'
def spRounds (K : PySem.W.Frag) (n : Nat) : Sp := fun vs H Q _ => ∃ (d wl : Addr) (m t dd : Nat) (dp : Int) (ws : Ws) (ins : Bool), vs = [.ref d, .int dp, .bl ins, .int t, .ref wl] ∧ MakeAt K H d m wl ws t ∧ 0 ≤ dp ∧ dp + dd = 4 ∧ 1 ≤ dd ∧ dd ≤ n ∧
  ∀ v a b m' H', Gm d H H' → DkAt H' d m' → m' ≤ m → Tp K H' (encH (.again a b .nil)) v → AmOk t ins a → BOk (arW ws) t b (dd - 1) true → blen b ≤ 50 → Q v H'
def spChoice (K : PySem.W.Frag) (n : Nat) : Sp := fun vs H Q _ => ∃ (d wl : Addr) (m t dd : Nat) (dp : Int) (ws : Ws) (ins : Bool), vs = [.ref d, .int dp, .bl ins, .int t, .ref wl] ∧ MakeAt K H d m wl ws t ∧ 0 ≤ dp ∧ dp + dd = 4 ∧ 1 ≤ dd ∧ dd ≤ n ∧
  ∀ v a b e m' H', Gm d H H' → DkAt H' d m' → m' ≤ m → Tp K H' (encH (.ite a b e .nil)) v → AmOk t ins a → BOk (arW ws) t b (dd - 1) ins → BOk (arW ws) t e (dd - 1) ins → blen b ≤ 50 → blen e ≤ 50 → Q v H'
def spCallG (K : PySem.W.Frag) : Sp := fun vs H Q _ => ∃ (d wl : Addr) (m t : Nat) (ws : Ws) (ins : Bool), vs = [.ref d, .bl ins, .int t, .ref wl] ∧ MakeAt K H d m wl ws t ∧ 0 < ws.length ∧
  ∀ v j as m' H', Gm d H H' → DkAt H' d m' → m' ≤ m → Tp K H' (encH (.call j as .nil)) v → j < (arW ws).length → as.length = (arW ws).getD j 0 → (∀ a ∈ as, AmOk t ins a) → Q v H'
abbrev nCallG : List Str := ["_law_deck_here", "_law_inside", "_law_takes", "_law_words", "_law_name", "_law_many", "_law_body_here", "_law_k"]
section
variable {P : Program} {w : World} {K : PySem.W.Frag} {mg : Str → Option Value} {base : Heap}
theorem sc_rounds : FnScope ["_law_deck_here", "_law_deep", "_law_inside", "_law_takes", "_law_words", "_law_kind", "_law_amount_here"] ["_law_deck_here", "_law_deep", "_law_inside", "_law_takes", "_law_words"] (defScope sRounds) := ⟨rfl, rfl, rfl, by decide +kernel, rfl, by decide +kernel, by decide +kernel⟩
theorem ok_rounds {n : Nat} {f fN fA fB : Addr} {fd fdN fdA fdB : FuncData} (F : Fun K "_law_rounds" "_law_rounds" sRounds f fd) (DN : Dn P w K mg base CX0 1 "_law_next" fN fdN ["_law_deck_here"] spNext)
    (DA : Dn P w K mg base CX0 2 "_law_amount" fA fdA ["_law_deck_here", "_law_inside", "_law_takes"] (spAmt K)) (DB : Dn P w K mg base CX0 (3 * n + 3) "_law_body" fB fdB ["_law_deck_here", "_law_deep", "_law_inside", "_law_takes", "_law_words"] (spBodyG K n)) :
    FnOk P w K mg base CX0 (3 * n + 4) f fd ["_law_deck_here", "_law_deep", "_law_inside", "_law_takes", "_law_words"] (spRounds K n) := by
  refine F.ok sc_rounds (fun vs H Q E h => ?_) (fun cdv A outer s H vs Q E hr h => ?_)
  · obtain ⟨d, wl, m, t, dd, dp, ws, ins, rfl, _⟩ := h
    rfl
  obtain ⟨d, wl, m, t, dd, dp, ws, ins, rfl, G, p0, p4, d1, dn, q⟩ := h
  refine ⟨_, (pss_cons (ps_set (i := 5) sc_rounds.nd rfl (.inl rfl) (dn_call DN hr (by omega) rfl pass0 (pa_cons (pv 0) pa_nil)))
    (pss_cons (ps_set (i := 6) sc_rounds.nd rfl (.inl rfl) (pe_op op_mod (pe_op op_fdiv (pv 5) pe_int) pe_int))
    (pss_cons (ps_if (pt_cmpR op_eq (pe_op op_mod (pv 5) pe_int) pe_int (nomark _)) (pss_one (ps_set (i := 6) sc_rounds.nd rfl (.inl rfl) (dn_call DA hr (by omega) rfl pass0 (pa_cons (pv 0) (pa_cons (pv 2) (pa_cons (pv 3) pa_nil)))))) pss_nil)
    (pss_one (ps_ret (pe_tup (pa_cons pe_str (pa_cons (pv 6) (pa_cons (dn_call DB hr (by omega) rfl pass0 (pa_cons (pv 0) (pa_cons (pe_op op_add (pv 1) pe_int) (pa_cons pe_bl (pa_cons (pv 3) (pa_cons (pv 4) pa_nil)))))) pa_nil))))))))), ?_⟩
  refine ⟨_, rfl, d, m, rfl, G.dk, fun r m1 H1 g1 k1 l1 _ => ?_⟩
  have G1 := G.gm g1 k1 l1
  refine ⟨_, rfl, _, _, rfl, rfl, ⟨by decide, by decide⟩, _, _, rfl, rfl, (by show (0 : Int) < 5; decide), ?_⟩
  refine ⟨_, rfl, _, _, rfl, rfl, (by show (0 : Int) < 3; decide), rfl, _, rfl, ifi_of (fun c => ?_) (fun c => ?_)⟩
  · refine ⟨_, rfl, _, rfl, _, rfl, d, m1, t, ins, rfl, k1, G.t4, fun v a m2 H2 g2 k2 l2 hv ha => ?_⟩
    have G2 := G1.gm g2 k2 l2
    refine ⟨_, rfl, _, rfl, _, rfl, _, _, rfl, rfl, _, rfl, _, rfl, d, wl, m2, t, dd - 1, dp + 1, ws, true, rfl, G2, by omega, by omega, by omega, fun vb b m3 H3 g3 k3 l3 _ hb okb lb => ?_⟩
    refine ⟨len3, fun p hp => ?_⟩
    have s4 := same_new hp (.tup [.str "again", v, vb])
    exact q _ a b m3 _ (g1.trans (g2.trans (g3.trans (Gm.same s4)))) (k3.same s4) (by omega) (tp_tup sqt_new (tpa_cons tp_str (tpa_cons (Tp.mono (g3.tups.trans (Tups.same s4)) _ _ hv) (tpa_cons (Tp.mono (Tups.same s4) _ _ hb) tpa_nil)))) ha okb (by omega)
  · refine ⟨_, rfl, _, rfl, _, rfl, _, _, rfl, rfl, _, rfl, _, rfl, d, wl, m1, t, dd - 1, dp + 1, ws, true, rfl, G1, by omega, by omega, by omega, fun vb b m3 H3 g3 k3 l3 _ hb okb lb => ?_⟩
    refine ⟨len3, fun p hp => ?_⟩
    have s4 := same_new hp (.tup [.str "again", .int (r / 3 % 5), vb])
    exact q _ (.lit (r / 3 % 5)) b m3 _ (g1.trans (g3.trans (Gm.same s4))) (k3.same s4) (by omega) (tp_tup sqt_new (tpa_cons tp_str (tpa_cons tp_int (tpa_cons (Tp.mono (Tups.same s4) _ _ hb) tpa_nil)))) ⟨by omega, by omega⟩ okb (by omega)
theorem sc_choice : FnScope ["_law_deck_here", "_law_deep", "_law_inside", "_law_takes", "_law_words", "_law_amount_here", "_law_one"] ["_law_deck_here", "_law_deep", "_law_inside", "_law_takes", "_law_words"] (defScope sChoice) := ⟨rfl, rfl, rfl, by decide +kernel, rfl, by decide +kernel, by decide +kernel⟩
theorem ok_choice {n : Nat} {f fA fB : Addr} {fd fdA fdB : FuncData} (F : Fun K "_law_choice" "_law_choice" sChoice f fd)
    (DA : Dn P w K mg base CX0 2 "_law_amount" fA fdA ["_law_deck_here", "_law_inside", "_law_takes"] (spAmt K)) (DB : Dn P w K mg base CX0 (3 * n + 3) "_law_body" fB fdB ["_law_deck_here", "_law_deep", "_law_inside", "_law_takes", "_law_words"] (spBodyG K n)) :
    FnOk P w K mg base CX0 (3 * n + 4) f fd ["_law_deck_here", "_law_deep", "_law_inside", "_law_takes", "_law_words"] (spChoice K n) := by
  refine F.ok sc_choice (fun vs H Q E h => ?_) (fun cdv A outer s H vs Q E hr h => ?_)
  · obtain ⟨d, wl, m, t, dd, dp, ws, ins, rfl, _⟩ := h
    rfl
  obtain ⟨d, wl, m, t, dd, dp, ws, ins, rfl, G, p0, p4, d1, dn, q⟩ := h
  refine ⟨_, (pss_cons (ps_set (i := 5) sc_choice.nd rfl (.inl rfl) (dn_call DA hr (by omega) rfl pass0 (pa_cons (pv 0) (pa_cons (pv 2) (pa_cons (pv 3) pa_nil)))))
    (pss_cons (ps_set (i := 6) sc_choice.nd rfl (.inl rfl) (dn_call DB hr (by omega) rfl pass0 (pa_cons (pv 0) (pa_cons (pe_op op_add (pv 1) pe_int) (pa_cons (pv 2) (pa_cons (pv 3) (pa_cons (pv 4) pa_nil)))))))
    (pss_one (ps_ret (pe_tup (pa_cons pe_str (pa_cons (pv 5) (pa_cons (pv 6) (pa_cons (dn_call DB hr (by omega) rfl pass0 (pa_cons (pv 0) (pa_cons (pe_op op_add (pv 1) pe_int) (pa_cons (pv 2) (pa_cons (pv 3) (pa_cons (pv 4) pa_nil)))))) pa_nil))))))))), ?_⟩
  refine ⟨_, rfl, _, rfl, _, rfl, d, m, t, ins, rfl, G.dk, G.t4, fun v a m1 H1 g1 k1 l1 hv ha => ?_⟩
  have G1 := G.gm g1 k1 l1
  refine ⟨_, rfl, _, rfl, _, _, rfl, rfl, _, rfl, _, rfl, _, rfl, d, wl, m1, t, dd - 1, dp + 1, ws, ins, rfl, G1, by omega, by omega, by omega, fun v1 b1 m2 H2 g2 k2 l2 _ hb1 ok1 lb1 => ?_⟩
  have G2 := G1.gm g2 k2 l2
  refine ⟨_, rfl, _, rfl, _, rfl, _, rfl, _, _, rfl, rfl, _, rfl, _, rfl, _, rfl, d, wl, m2, t, dd - 1, dp + 1, ws, ins, rfl, G2, by omega, by omega, by omega, fun v2 b2 m3 H3 g3 k3 l3 _ hb2 ok2 lb2 => ?_⟩
  refine ⟨len4, fun p hp => ?_⟩
  have s4 := same_new hp (.tup [.str "if", v, v1, v2])
  have t4 := Tups.same s4
  exact q _ a b1 b2 m3 _ (g1.trans (g2.trans (g3.trans (Gm.same s4)))) (k3.same s4) (by omega) (tp_tup sqt_new (tpa_cons tp_str (tpa_cons (Tp.mono (g2.tups.trans (g3.tups.trans t4)) _ _ hv) (tpa_cons (Tp.mono (g3.tups.trans t4) _ _ hb1) (tpa_cons (Tp.mono t4 _ _ hb2) tpa_nil))))) ha ok1 ok2 (by omega) (by omega)
theorem sc_callg : FnScope nCallG ["_law_deck_here", "_law_inside", "_law_takes", "_law_words"] (defScope sCallG) := ⟨rfl, rfl, rfl, by decide +kernel, rfl, by decide +kernel, by decide +kernel⟩
theorem ok_callg {f fN fA : Addr} {fd fdN fdA : FuncData} (F : Fun K "_law_call" "_law_call" sCallG f fd) (B0 : Bl mg) (DN : Dn P w K mg base CX0 1 "_law_next" fN fdN ["_law_deck_here"] spNext)
    (DA : Dn P w K mg base CX0 2 "_law_amount" fA fdA ["_law_deck_here", "_law_inside", "_law_takes"] (spAmt K)) :
    FnOk P w K mg base CX0 3 f fd ["_law_deck_here", "_law_inside", "_law_takes", "_law_words"] (spCallG K) := by
  refine F.ok sc_callg (fun vs H Q E h => ?_) (fun cdv A outer s H vs Q E hr h => ?_)
  · obtain ⟨d, wl, m, t, ws, ins, rfl, _⟩ := h
    rfl
  obtain ⟨d, wl, m, t, ws, ins, rfl, G, w0, q⟩ := h
  refine ⟨_, (pss_cons (ps_asg (pe_ix ix_list (pv 3) (pe_op op_mod (dn_call DN hr (by omega) rfl pass0 (pa_cons (pv 0) pa_nil)) (pe_callB call_len_seq (by rfl) B0.len (by decide +kernel) (pa_cons (pv 3) pa_nil))) (fun _ _ => rfl)) (pg_tup rfl (pgs_cons (pg_name (i := 4) sc_callg.nd rfl (.inl rfl)) (pgs_cons (pg_name (i := 5) sc_callg.nd rfl (.inl rfl)) (pgs_cons (pg_name (i := 6) sc_callg.nd rfl (.inl rfl)) pgs_nil)))))
    (pss_one (ps_ret (pe_tup (pa_cons pe_str (pa_cons (pv 4) (pa_cons (pe_callTy call_tuple_of (by rfl) B0.tup (by decide +kernel) (pa_cons (pe_lc (own := [("_law_k", 7)]) (g := (gName 7)) (by rfl) sc_callg.nd (pi_range1 rfl B0.range (pa_cons (pv 5) pa_nil)) (blkOk_by (N := nCallG) (sc := defScope sCallG) (by decide +kernel)) (fun _ _ _ _ _ => by exact (pg_name (i := 7) sc_callg.nd rfl (.inl rfl))) (fun _ _ _ _ _ => pts_nil) (fun _ _ _ _ _ => by exact (dn_call DA hr (by omega) rfl pass0 (pa_cons (pv 0) (pa_cons (pv 1) (pa_cons (pv 2) pa_nil)))))) pa_nil)) pa_nil))))))), ?_⟩
  refine ⟨_, rfl, _, rfl, d, m, rfl, G.dk, fun r m1 H1 g1 k1 l1 _ => ?_⟩
  have G1 := G.gm g1 k1 l1
  obtain ⟨xs, hxs, hxa⟩ := G1.words
  have hxl : xs.length = ws.length := by
    have := hxa.len
    rw [encWs_len] at this
    exact this
  have j0 : 0 ≤ r % (xs.length : Int) := Int.emod_nonneg _ (by omega)
  have j1 : r % (xs.length : Int) < (xs.length : Int) := Int.emod_lt_of_pos _ (by omega)
  have jl : (r % (xs.length : Int)).toNat < xs.length := by omega
  have ej : xs[(r % (xs.length : Int)).toNat]? = some xs[(r % (xs.length : Int)).toNat] := List.getElem?_eq_getElem jl
  refine ⟨_, rfl, wl, _, rfl, .inl (SqL.of hxs), _, _, rfl, rfl, (by show (0 : Int) < (xs.length : Int); omega), wl, _, _, _, rfl, rfl, SqL.of hxs, at_of (show r % (xs.length : Int) = (((r % (xs.length : Int)).toNat : Nat) : Int) by omega) ej, ?_⟩
  generalize hj : (r % (xs.length : Int)).toNat = j at jl ej
  obtain ⟨w1, hw1, hh⟩ := encWs_at hxa ej
  rw [Nat.zero_add] at hh
  obtain ⟨pw, y1, y2, y3, ex, hpw, h1, h2, h3⟩ := tp_three hh
  obtain rfl := h1.s
  obtain rfl := h2.i
  have w4 : w1.1 ≤ 4 := G.many w1 (List.mem_of_getElem? hw1)
  have ear : (arW ws).getD j 0 = w1.1 := by
    rw [List.getD_eq_getElem?_getD, List.getElem?_map, hw1]
    rfl
  refine ⟨pw, _, ?_, hpw, rfl, _, _, rfl, _, _, rfl, _, _, rfl, rfl, ?_⟩
  · subst hj
    exact ex
  refine ⟨_, rfl, _, rfl, (w1.1 : Int), rfl, by omega, by omega, fun D hD => lc_range (lo := 0) (n := (w1.1 : Int).toNat) (fun i H2 => ∃ (acc : List V) (as : List Am) (m2 : Nat), Gm d H1 H2 ∧ H2 D = some (.lst acc) ∧ TpAll K H2 (as.map encA) acc ∧ as.length = i ∧ (∀ a ∈ as, AmOk t ins a) ∧ DkAt H2 d m2 ∧ m2 ≤ m1)
    ⟨[], [], m1, Gm.same (same_new hD _), upd_same, tpa_nil, rfl, (fun a ha => nomatch ha), k1.same (same_new hD _), Nat.le_refl _⟩ ?_ ?_⟩
  · rintro i H2 hi ⟨acc, as, m2, g2, hacc, hta, hal, hok, k2, l2⟩
    have nD : D ≠ d := fun e => by
      obtain ⟨ds, e1, _⟩ := k1
      rw [e] at hD
      rw [e1] at hD
      cases hD
    refine ⟨rfl, _, rfl, _, rfl, _, rfl, d, m2, t, ins, rfl, k2, G.t4, fun v a m3 H3 g3 k3 l3 hv ha => ?_⟩
    have hacc3 := g3.keep D _ nD hacc
    have t3 : Tups H3 (upd H3 D (.lst (acc ++ [v]))) := tups_upd hacc3 nt_lst
    have la : acc.length = i := by
      have := hta.len
      rw [List.length_map] at this
      omega
    refine ⟨acc, hacc3, small1000 (by omega), acc ++ [v], as ++ [a], m3, ⟨fun b o nb e => ?_, g2.tups.trans (g3.tups.trans t3)⟩, upd_same, ?_, by rw [List.length_append, hal]; rfl, fun a2 ha2 => ?_, ?_, by omega⟩
    · rw [upd_ne (ne_of_none e hD)]
      exact g3.keep _ _ nb (g2.keep _ _ nb e)
    · rw [List.map_append]
      exact TpAll.snoc (TpAll.mono (g3.tups.trans t3) _ _ hta) (Tp.mono t3 _ _ hv)
    · rcases List.mem_append.mp ha2 with z | z
      · exact hok a2 z
      · rw [List.mem_singleton.mp z]; exact ha
    · obtain ⟨ds, e1, e2⟩ := k3
      exact ⟨ds, by rw [upd_ne nD.symm]; exact e1, e2⟩
  · rintro H2 ⟨acc, as, m2, g2, hacc, hta, hal, hok, k2, l2⟩
    refine ⟨D, _, rfl, .inl ⟨SqL.of hacc, fun l hl => ?_⟩⟩
    have s3 := same_new hl (.tup acc)
    refine ⟨len3, fun p hp => ?_⟩
    have s4 := same_new hp (.tup [.str "do", .str (wname j), .ref l])
    refine q _ j as m2 _ (g1.trans (g2.trans ((Gm.same s3).trans (Gm.same s4)))) ((k2.same s3).same s4) (by omega) (tp_tup sqt_new (tpa_cons tp_str (tpa_cons tp_str (tpa_cons (tp_tup ((Tups.same s4).sq sqt_new) (TpAll.mono (Tups.same (s3.trans s4)) _ _ hta)) tpa_nil)))) ?_ ?_ hok
    · rw [List.length_map]; omega
    · rw [ear, hal]
      rfl
end
end TH
set_option Elab.async false
set_option linter.all false
set_option maxRecDepth 100000
set_option maxHeartbeats 4000000
namespace TH
open PySem PySem.Spec PyProof.Rows L2
abbrev sStmtG : Stmt := top 40
abbrev sBodyG : Stmt := top 41
def B.app : B → B → B
  | .nil, c => c
  | .go a r, c => .go a (r.app c)
  | .turn a r, c => .turn a (r.app c)
  | .ink a r, c => .ink a (r.app c)
  | .pen d r, c => .pen d (r.app c)
  | .mark k r, c => .mark k (r.app c)
  | .back k r, c => .back k (r.app c)
  | .again a b r, c => .again a b (r.app c)
  | .ite a b e r, c => .ite a b e (r.app c)
  | .call j as r, c => .call j as (r.app c)
theorem encB_app (b c : B) : encB (b.app c) = encB b ++ encB c := by induction b <;> simp_all [B.app, encB]
theorem blen_app (b c : B) : blen (b.app c) = blen b + blen c := by induction b <;> simp_all [B.app, blen] <;> omega
theorem bok_app {ar : List Nat} {t : Nat} {c : B} {d : Nat} {i : Bool} (hc : BOk ar t c d i) : ∀ b : B, BOk ar t b d i → BOk ar t (b.app c) d i
  | .nil, _ => hc
  | .go a r, h => ⟨h.1, bok_app hc r h.2⟩
  | .turn a r, h => ⟨h.1, bok_app hc r h.2⟩
  | .ink a r, h => ⟨h.1, bok_app hc r h.2⟩
  | .pen _ r, h => bok_app hc r h
  | .mark _ r, h => ⟨h.1, bok_app hc r h.2⟩
  | .back _ r, h => ⟨h.1, bok_app hc r h.2⟩
  | .again _ _ r, h => ⟨h.1, bok_app hc r h.2⟩
  | .ite _ _ _ r, h => ⟨h.1, bok_app hc r h.2⟩
  | .call _ _ r, h => ⟨h.1, bok_app hc r h.2⟩
theorem blen_one {b : B} (n : b ≠ .nil) (t : b.tail = .nil) : blen b = 1 ∧ encB b = [encH b] := by
  rw [encB_cons n, t]
  refine ⟨?_, rfl⟩
  rw [← encB_len, encB_cons n, t]
  rfl
def spStmtG (K : PySem.W.Frag) (n : Nat) : Sp := fun vs H Q _ => ∃ (d wl : Addr) (m t dd : Nat) (dp : Int) (ws : Ws) (ins : Bool), vs = [.ref d, .int dp, .bl ins, .int t, .ref wl] ∧ MakeAt K H d m wl ws t ∧ 0 ≤ dp ∧ dp + dd = 4 ∧ dd ≤ n ∧
  ∀ v b m' H', Gm d H H' → DkAt H' d m' → m' ≤ m → Tp K H' (encH b) v → b ≠ .nil → b.tail = .nil → BOk (arW ws) t b dd ins → Q v H'
theorem and_lt {wy n dp m : Int} {A B : Prop} (h1 : wy = n → dp < m → A) (h2 : B) :
    if decide (V.int wy = V.int n) = true then (∃ v, some (some (V.int dp)) = some (some v) ∧ ∃ i j, v = V.int i ∧ V.int m = V.int j ∧ ∃ k, V.bl (decide (i < j)) = V.bl k ∧ if k = true then A else B) else B := by
  refine ifi_of (fun c => ⟨_, rfl, _, _, rfl, rfl, _, rfl, ?_⟩) (fun _ => h2)
  by_cases c2 : dp < m
  · rw [if_pos (decide_eq_true c2)]
    exact h1 c c2
  · rw [if_neg (by rw [decide_eq_false c2]; exact Bool.false_ne_true)]
    exact h2
theorem and_len {K : PySem.W.Frag} {H : Hp} {wy n : Int} {wl : Addr} {xs : List V} {A B : Prop} (hs : H wl = some (.lst xs)) (h1 : wy = n → 0 < xs.length → A) (h2 : B) :
    if decide (V.int wy = V.int n) = true then (∃ v, some (some (V.ref wl)) = some (some v) ∧ ∃ p ys, [v] = [V.ref p] ∧ (SqL K H p ys ∨ SqT K H p ys) ∧ ∃ i j, V.int (ys.length : Nat) = V.int i ∧ V.int 0 = V.int j ∧ ∃ k, V.bl (decide (j < i)) = V.bl k ∧ if k = true then A else B) else B := by
  refine ifi_of (fun c => ⟨_, rfl, wl, xs, rfl, .inl (SqL.of hs), _, _, rfl, rfl, _, rfl, ?_⟩) (fun _ => h2)
  by_cases c2 : (0 : Int) < (xs.length : Int)
  · rw [if_pos (decide_eq_true c2)]
    exact h1 c (by omega)
  · rw [if_neg (by rw [decide_eq_false c2]; exact Bool.false_ne_true)]
    exact h2
section
variable {P : Program} {w : World} {K : PySem.W.Frag} {mg : Str → Option Value} {base : Heap}
theorem sc_stmtg : FnScope ["_law_deck_here", "_law_deep", "_law_inside", "_law_takes", "_law_words", "_law_way"] ["_law_deck_here", "_law_deep", "_law_inside", "_law_takes", "_law_words"] (defScope sStmtG) := ⟨rfl, rfl, rfl, by decide +kernel, rfl, by decide +kernel, by decide +kernel⟩
theorem ok_stmtg {n : Nat} {f fN fA fM fR fC fW : Addr} {fd fdN fdA fdM fdR fdC fdW : FuncData} (F : Fun K "_law_statement" "_law_statement" sStmtG f fd) (B0 : Bl mg) (DN : Dn P w K mg base CX0 1 "_law_next" fN fdN ["_law_deck_here"] spNext)
    (DA : Dn P w K mg base CX0 2 "_law_amount" fA fdA ["_law_deck_here", "_law_inside", "_law_takes"] (spAmt K)) (DM : Dn P w K mg base CX0 2 "_law_mark" fM fdM ["_law_deck_here"] spMarkG)
    (DR : Dn P w K mg base CX0 (3 * n + 4) "_law_rounds" fR fdR ["_law_deck_here", "_law_deep", "_law_inside", "_law_takes", "_law_words"] (spRounds K n))
    (DC : Dn P w K mg base CX0 (3 * n + 4) "_law_choice" fC fdC ["_law_deck_here", "_law_deep", "_law_inside", "_law_takes", "_law_words"] (spChoice K n))
    (DW : Dn P w K mg base CX0 3 "_law_call" fW fdW ["_law_deck_here", "_law_inside", "_law_takes", "_law_words"] (spCallG K)) :
    FnOk P w K mg base CX0 (3 * n + 5) f fd ["_law_deck_here", "_law_deep", "_law_inside", "_law_takes", "_law_words"] (spStmtG K n) := by
  refine F.ok sc_stmtg (fun vs H Q E h => ?_) (fun cdv A outer s H vs Q E hr h => ?_)
  · obtain ⟨d, wl, m, t, dd, dp, ws, ins, rfl, _⟩ := h
    rfl
  obtain ⟨d, wl, m, t, dd, dp, ws, ins, rfl, G, p0, p4, dn, q⟩ := h
  refine ⟨_, (pss_cons (ps_set (i := 5) sc_stmtg.nd rfl (.inl rfl) (pe_op op_mod (dn_call DN hr (by omega) rfl pass0 (pa_cons (pv 0) pa_nil)) pe_int))
    (pss_cons (ps_if (pt_cmpR op_lt (pv 5) pe_int (nomark _)) (pss_one (ps_ret (pe_tup (pa_cons pe_str (pa_cons (dn_call DA hr (by omega) rfl pass0 (pa_cons (pv 0) (pa_cons (pv 2) (pa_cons (pv 3) pa_nil)))) pa_nil))))) pss_nil)
    (pss_cons (ps_if (pt_cmpR op_lt (pv 5) pe_int (nomark _)) (pss_one (ps_ret (pe_tup (pa_cons pe_str (pa_cons (dn_call DA hr (by omega) rfl pass0 (pa_cons (pv 0) (pa_cons (pv 2) (pa_cons (pv 3) pa_nil)))) pa_nil))))) pss_nil)
    (pss_cons (ps_if (pt_cmpR op_eq (pv 5) pe_int (nomark _)) (pss_one (ps_ret (pe_tup (pa_cons (pe_ix ix_list (pe_lst (pa_cons pe_str (pa_cons pe_str (pa_cons pe_str pa_nil)))) (pe_op op_mod (dn_call DN hr (by omega) rfl pass0 (pa_cons (pv 0) pa_nil)) pe_int) (fun _ _ => rfl)) pa_nil)))) pss_nil)
    (pss_cons (ps_if (pt_cmpR op_eq (pv 5) pe_int (nomark _)) (pss_one (ps_ret (pe_tup (pa_cons pe_str (pa_cons (dn_call DA hr (by omega) rfl pass0 (pa_cons (pv 0) (pa_cons (pv 2) (pa_cons (pv 3) pa_nil)))) pa_nil))))) pss_nil)
    (pss_cons (ps_if (pt_cmpR op_eq (pv 5) pe_int (nomark _)) (pss_one (ps_ret (pe_tup (pa_cons (pe_ix ix_list (pe_lst (pa_cons pe_str (pa_cons pe_str (pa_cons pe_str pa_nil)))) (pe_op op_mod (dn_call DN hr (by omega) rfl pass0 (pa_cons (pv 0) pa_nil)) pe_int) (fun _ _ => rfl)) (pa_cons (dn_call DM hr (by omega) rfl pass0 (pa_cons (pv 0) pa_nil)) pa_nil))))) pss_nil)
    (pss_cons (ps_if (PW.pt (pw_and (pt_cmpR op_eq (pv 5) pe_int (nomark _)) (pw_and1 (pt_cmpR op_lt (pv 1) pe_int (nomark _))))) (pss_one (ps_ret (dn_call DC hr (by omega) rfl pass0 (pa_cons (pv 0) (pa_cons (pv 1) (pa_cons (pv 2) (pa_cons (pv 3) (pa_cons (pv 4) pa_nil)))))))) pss_nil)
    (pss_cons (ps_if (PW.pt (pw_and (pt_cmpR op_eq (pv 5) pe_int (nomark _)) (pw_and1 (pt_cmpR op_gt (pe_callB call_len_seq (by rfl) B0.len (by decide +kernel) (pa_cons (pv 4) pa_nil)) pe_int (nomark _))))) (pss_one (ps_ret (dn_call DW hr (by omega) rfl pass0 (pa_cons (pv 0) (pa_cons (pv 2) (pa_cons (pv 3) (pa_cons (pv 4) pa_nil))))))) pss_nil)
    (pss_cons (ps_if (pt_cmpR op_lt (pv 1) pe_int (nomark _)) (pss_one (ps_ret (dn_call DR hr (by omega) rfl pass0 (pa_cons (pv 0) (pa_cons (pv 1) (pa_cons (pv 2) (pa_cons (pv 3) (pa_cons (pv 4) pa_nil)))))))) pss_nil)
    (pss_one (ps_ret (pe_tup (pa_cons pe_str (pa_cons (pe_op op_add pe_int (pe_op op_mod (dn_call DN hr (by omega) rfl pass0 (pa_cons (pv 0) pa_nil)) pe_int)) pa_nil)))))))))))))), ?_⟩
  refine ⟨_, rfl, d, m, rfl, G.dk, fun r m1 H1 g1 k1 l1 _ => ?_⟩
  have G1 := G.gm g1 k1 l1
  obtain ⟨xs, hxs, hxa⟩ := G1.words
  have hxl : xs.length = ws.length := by
    have := hxa.len
    rw [encWs_len] at this
    exact this
  refine ⟨_, _, rfl, rfl, (by show (0 : Int) < 13; decide), ?_⟩
  refine ⟨_, rfl, _, _, rfl, rfl, _, rfl, ifd (fun _ => ?_) (fun _ => ?_)⟩
  · refine ⟨_, rfl, _, rfl, _, rfl, d, m1, t, ins, rfl, k1, G.t4, fun v a m2 H2 g2 k2 l2 hv ha => ⟨len2, fun p hp => ?_⟩⟩
    have s3 := same_new hp (.tup [.str "go", v])
    exact q _ (.go a .nil) m2 _ (g1.trans (g2.trans (Gm.same s3))) (k2.same s3) (by omega) (tp_tup sqt_new (tpa_cons tp_str (tpa_cons (Tp.mono (Tups.same s3) _ _ hv) tpa_nil))) (fun z => nomatch z) rfl ⟨ha, trivial⟩
  refine ⟨_, rfl, _, _, rfl, rfl, _, rfl, ifd (fun _ => ?_) (fun _ => ?_)⟩
  · refine ⟨_, rfl, _, rfl, _, rfl, d, m1, t, ins, rfl, k1, G.t4, fun v a m2 H2 g2 k2 l2 hv ha => ⟨len2, fun p hp => ?_⟩⟩
    have s3 := same_new hp (.tup [.str "turn", v])
    exact q _ (.turn a .nil) m2 _ (g1.trans (g2.trans (Gm.same s3))) (k2.same s3) (by omega) (tp_tup sqt_new (tpa_cons tp_str (tpa_cons (Tp.mono (Tups.same s3) _ _ hv) tpa_nil))) (fun z => nomatch z) rfl ⟨ha, trivial⟩
  refine ⟨_, rfl, rfl, _, rfl, ifi_of (fun _ => ?_) (fun _ => ?_)⟩
  · refine ⟨len3, fun l hl => ?_⟩
    have s2 := same_new hl (.lst [.str "up", .str "down", .str "down"])
    refine ⟨_, rfl, d, m1, rfl, k1.same s2, fun z m3 H3 g3 k3 l3 _ => ?_⟩
    have nd : l ≠ d := fun e => by
      obtain ⟨ds, e1, _⟩ := k1
      rw [e, e1] at hl
      cases hl
    have hl3 := g3.keep l _ nd upd_same
    have hz : z % 3 = 0 ∨ z % 3 = 1 ∨ z % 3 = 2 := by omega
    obtain ⟨b, hb⟩ : ∃ b : Bool, atI [V.str "up", V.str "down", V.str "down"] (z % 3) = some (V.str (if b then "down" else "up")) := by
      rcases hz with hz | hz | hz
      · exact ⟨false, by rw [hz]; exact atI_nat (j := 0) rfl⟩
      · exact ⟨true, by rw [hz]; exact atI_nat (j := 1) rfl⟩
      · exact ⟨true, by rw [hz]; exact atI_nat (j := 2) rfl⟩
    refine ⟨_, _, rfl, rfl, (by show (0 : Int) < 3; decide), l, _, _, _, rfl, rfl, SqL.of hl3, hb, len1, fun p hp => ?_⟩
    have s4 := same_new hp (.tup [V.str (if b then "down" else "up")])
    exact q _ (.pen b .nil) m3 _ (g1.trans ((Gm.same s2).trans (g3.trans (Gm.same s4)))) (k3.same s4) (by omega) (tp_tup sqt_new (tpa_cons tp_str tpa_nil)) (fun z => nomatch z) rfl trivial
  refine ⟨_, rfl, rfl, _, rfl, ifi_of (fun _ => ?_) (fun _ => ?_)⟩
  · refine ⟨_, rfl, _, rfl, _, rfl, d, m1, t, ins, rfl, k1, G.t4, fun v a m2 H2 g2 k2 l2 hv ha => ⟨len2, fun p hp => ?_⟩⟩
    have s3 := same_new hp (.tup [.str "ink", v])
    exact q _ (.ink a .nil) m2 _ (g1.trans (g2.trans (Gm.same s3))) (k2.same s3) (by omega) (tp_tup sqt_new (tpa_cons tp_str (tpa_cons (Tp.mono (Tups.same s3) _ _ hv) tpa_nil))) (fun z => nomatch z) rfl ⟨ha, trivial⟩
  refine ⟨_, rfl, rfl, _, rfl, ifi_of (fun _ => ?_) (fun _ => ?_)⟩
  · refine ⟨len3, fun l hl => ?_⟩
    have s2 := same_new hl (.lst [.str "mark", .str "mark", .str "back"])
    refine ⟨_, rfl, d, m1, rfl, k1.same s2, fun z m3 H3 g3 k3 l3 _ => ?_⟩
    have nd : l ≠ d := fun e => by
      obtain ⟨ds, e1, _⟩ := k1
      rw [e, e1] at hl
      cases hl
    have hl3 := g3.keep l _ nd upd_same
    have hz : z % 3 = 0 ∨ z % 3 = 1 ∨ z % 3 = 2 := by omega
    obtain ⟨b, hb⟩ : ∃ b : Bool, atI [V.str "mark", V.str "mark", V.str "back"] (z % 3) = some (V.str (if b then "back" else "mark")) := by
      rcases hz with hz | hz | hz
      · exact ⟨false, by rw [hz]; exact atI_nat (j := 0) rfl⟩
      · exact ⟨false, by rw [hz]; exact atI_nat (j := 1) rfl⟩
      · exact ⟨true, by rw [hz]; exact atI_nat (j := 2) rfl⟩
    refine ⟨_, _, rfl, rfl, (by show (0 : Int) < 3; decide), l, _, _, _, rfl, rfl, SqL.of hl3, hb, ?_⟩
    refine ⟨_, rfl, d, m3, rfl, k3, by have := G.m1000; omega, fun y m4 H4 g4 k4 l4 y0 y9 => ⟨len2, fun p hp => ?_⟩⟩
    have s5 := same_new hp (.tup [V.str (if b then "back" else "mark"), .int y])
    have gg := g1.trans ((Gm.same s2).trans (g3.trans (g4.trans (Gm.same s5))))
    cases b with
    | false => exact q _ (.mark y .nil) m4 _ gg (k4.same s5) (by omega) (tp_tup sqt_new (tpa_cons tp_str (tpa_cons tp_int tpa_nil))) (fun z => nomatch z) rfl ⟨⟨y0, y9⟩, trivial⟩
    | true => exact q _ (.back y .nil) m4 _ gg (k4.same s5) (by omega) (tp_tup sqt_new (tpa_cons tp_str (tpa_cons tp_int tpa_nil))) (fun z => nomatch z) rfl ⟨⟨y0, y9⟩, trivial⟩
  refine ⟨_, rfl, rfl, _, rfl, and_lt (fun _ c2 => ?_) ?_⟩
  · refine ⟨_, rfl, _, rfl, _, rfl, _, rfl, _, rfl, d, wl, m1, t, dd, dp, ws, ins, rfl, G1, p0, p4, by omega, dn, fun v a b e m2 H2 g2 k2 l2 hv ha ob oe lb le => ?_⟩
    exact q _ (.ite a b e .nil) m2 _ (g1.trans g2) k2 (by omega) hv (fun z => nomatch z) rfl ⟨⟨ha, by omega, ob, oe, lb, le⟩, trivial⟩
  refine ⟨_, rfl, rfl, _, rfl, and_len hxs (fun _ c2 => ?_) ?_⟩
  · refine ⟨_, rfl, _, rfl, _, rfl, _, rfl, d, wl, m1, t, ws, ins, rfl, G1, by omega, fun v j as m2 H2 g2 k2 l2 hv hj hal has => ?_⟩
    exact q _ (.call j as .nil) m2 _ (g1.trans g2) k2 (by omega) hv (fun z => nomatch z) rfl ⟨⟨hj, hal, has⟩, trivial⟩
  refine ⟨_, rfl, _, _, rfl, rfl, _, rfl, ifd (fun c => ?_) (fun _ => ?_)⟩
  · refine ⟨_, rfl, _, rfl, _, rfl, _, rfl, _, rfl, d, wl, m1, t, dd, dp, ws, ins, rfl, G1, p0, p4, by omega, dn, fun v a b m2 H2 g2 k2 l2 hv ha ob lb => ?_⟩
    exact q _ (.again a b .nil) m2 _ (g1.trans g2) k2 (by omega) hv (fun z => nomatch z) rfl ⟨⟨ha, by omega, ob, lb⟩, trivial⟩
  · refine ⟨_, rfl, d, m1, rfl, k1, fun z m2 H2 g2 k2 l2 _ => ?_⟩
    refine ⟨_, _, rfl, rfl, (by show (0 : Int) < 7; decide), _, _, rfl, rfl, len2, fun p hp => ?_⟩
    have s3 := same_new hp (.tup [.str "turn", .int (1 + z % 7)])
    exact q _ (.turn (.lit (1 + z % 7)) .nil) m2 _ (g1.trans (g2.trans (Gm.same s3))) (k2.same s3) (by omega) (tp_tup sqt_new (tpa_cons tp_str (tpa_cons tp_int tpa_nil))) (fun z => nomatch z) rfl ⟨⟨by omega, by omega⟩, trivial⟩
theorem sc_bodyg : FnScope ["_law_deck_here", "_law_deep", "_law_inside", "_law_takes", "_law_words", "_law_body_here", "_law_k"] ["_law_deck_here", "_law_deep", "_law_inside", "_law_takes", "_law_words"] (defScope sBodyG) := ⟨rfl, rfl, rfl, by decide +kernel, rfl, by decide +kernel, by decide +kernel⟩
theorem ok_bodyg1 {n : Nat} {f fN fS : Addr} {fd fdN fdS : FuncData} (F : Fun K "_law_body" "_law_body" sBodyG f fd) (B0 : Bl mg) (DN : Dn P w K mg base CX0 1 "_law_next" fN fdN ["_law_deck_here"] spNext)
    (DS : Dn P w K mg base CX0 (3 * n + 5) "_law_statement" fS fdS ["_law_deck_here", "_law_deep", "_law_inside", "_law_takes", "_law_words"] (spStmtG K n)) :
    FnOk P w K mg base CX0 (3 * (n + 1) + 3) f fd ["_law_deck_here", "_law_deep", "_law_inside", "_law_takes", "_law_words"] (spBodyG K (n + 1)) := by
  refine F.ok sc_bodyg (fun vs H Q E h => ?_) (fun cdv A outer s H vs Q E hr h => ?_)
  · obtain ⟨d, wl, m, t, dd, dp, ws, ins, rfl, _⟩ := h
    rfl
  obtain ⟨d, wl, m, t, dd, dp, ws, ins, rfl, G, p0, p4, dn, q⟩ := h
  refine ⟨_, (pss_cons (ps_set (i := 5) sc_bodyg.nd rfl (.inl rfl) (pe_lst pa_nil))
    (pss_cons (ps_for PassesOwn.never rfl (pi_range1 rfl B0.range (pa_cons (pe_op op_add (pe_op op_mod (dn_call DN hr (by omega) rfl pass0 (pa_cons (pv 0) pa_nil)) pe_int) (pe_callTy call_int1 (by rfl) B0.int (by decide +kernel) (pa_cons (pe_cmpR op_eq (pv 1) pe_int (nomark _)) pa_nil))) pa_nil)) (pg_name (i := 6) sc_bodyg.nd rfl (.inl rfl)) (pss_one (ps_if (pt_cmpR op_gt (pe_callB call_len_seq (by rfl) B0.len (by decide +kernel) (pa_cons (pv 0) pa_nil)) pe_int (nomark _)) (pss_one (ps_expr (pe_bm PySem.F.plainAttrs_list PySem.F.slot_list_append PySem.F.type_list_append mt_append (pv 5) (pa_cons (dn_call DS hr (by omega) rfl pass0 (pa_cons (pv 0) (pa_cons (pv 1) (pa_cons (pv 2) (pa_cons (pv 3) (pa_cons (pv 4) pa_nil)))))) pa_nil)))) pss_nil)))
    (pss_one (ps_ret (pe_callTy call_tuple_of (by rfl) B0.tup (by decide +kernel) (pa_cons (pv 5) pa_nil)))))), ?_⟩
  refine ⟨Nat.zero_le _, fun L hL => ?_⟩
  have s0 := same_new hL (.lst [])
  have nL : L ≠ d := fun e => by
    obtain ⟨ds, e1, _⟩ := G.dk
    rw [e, e1] at hL
    cases hL
  refine ⟨_, rfl, d, m, rfl, G.dk.same s0, fun r m1 H1 g1 k1 l1 lt1 => ?_⟩
  have G1 := (G.gm (Gm.same s0) (G.dk.same s0) (Nat.le_refl _)).gm g1 k1 l1
  refine ⟨_, _, rfl, rfl, (by show (0 : Int) < 5; decide), _, rfl, rfl, .inr ⟨_, rfl, _, _, rfl, rfl, ?_⟩⟩
  obtain ⟨N, hN, hN6⟩ : ∃ N : Int, r % 5 + (if decide (V.int dp = V.int 0) = true then 1 else 0) = N ∧ (0 ≤ N ∧ N ≤ 5) := ⟨_, rfl, by split <;> omega⟩
  refine ⟨N, congrArg (fun z => [V.int z]) hN, by omega, by omega, for_range (lo := 0) (n := N.toNat) (fun i σ H2 => ∃ (ko : Option V) (acc : List V) (b : B) (m2 : Nat), σ = [some (.ref d), some (.int dp), some (.bl ins), some (.int t), some (.ref wl), some (.ref L), ko] ∧
      Gm d (upd H L (.lst [])) H1 ∧ (∀ x o, x ≠ d → x ≠ L → H1 x = some o → H2 x = some o) ∧ Tups H1 H2 ∧ H2 L = some (.lst acc) ∧ TpAll K H2 (encB b) acc ∧ BOk (arW ws) t b dd ins ∧ blen b ≤ i ∧ DkAt H2 d m2 ∧ m2 ≤ m1)
    ⟨none, [], .nil, m1, rfl, g1, fun _ _ _ _ h => h, Tups.refl _, g1.keep _ _ nL upd_same, tpa_nil, trivial, Nat.le_refl _, k1, Nat.le_refl _⟩ ?_ ?_⟩
  · rintro i σ H2 hi ⟨ko, acc, b, m2, rfl, _, kp, tp, hacc, hta, ob, lb, k2, l2⟩
    have k2' := k2
    obtain ⟨ds, hds, hdl⟩ := k2
    refine ⟨_, rfl, d, _, rfl, .inl (SqL.of hds), _, _, rfl, rfl, _, rfl, ifd (fun _ => ?_) (fun _ => ?_)⟩
    · have wlL : wl ≠ L := fun e => by
        obtain ⟨xs, e1, _⟩ := G.words
        rw [e, hL] at e1
        cases e1
      have G2 : MakeAt K H2 d m2 wl ws t := ⟨k2', let ⟨xs, e, r⟩ := G1.words; ⟨xs, kp _ _ G1.ne wlL e, TpAll.mono tp _ _ r⟩, G1.ne, G1.few, G1.many, G1.t4, Nat.le_trans l2 G1.m1000⟩
      refine ⟨_, rfl, .inl ⟨rfl, _, SqL.of hacc⟩, _, rfl, _, rfl, _, rfl, _, rfl, _, rfl, d, wl, m2, t, dd, dp, ws, ins, rfl, G2, p0, p4, by omega, fun v b3 m3 H3 g3 k3 l3 hv nb tb ob3 => ?_⟩
      obtain ⟨lb1, eb1⟩ := blen_one nb tb
      have hacc3 := g3.keep L _ nL hacc
      have t3 : Tups H3 (upd H3 L (.lst (acc ++ [v]))) := tups_upd hacc3 nt_lst
      have la : acc.length = blen b := by
        have := hta.len
        rw [encB_len] at this
        exact this
      refine ⟨L, acc, v, rfl, rfl, hacc3, small1000 (by omega), ?_⟩
      refine ⟨_, acc ++ [v], b.app b3, m3, rfl, g1, fun x o nx nl e => ?_, tp.trans (g3.tups.trans t3), upd_same, ?_, bok_app ob3 b ob, by rw [blen_app]; omega, ?_, by omega⟩
      · rw [upd_ne nl]
        exact g3.keep _ _ nx (kp _ _ nx nl e)
      · rw [encB_app, eb1]
        exact TpAll.snoc (TpAll.mono (g3.tups.trans t3) _ _ hta) (Tp.mono t3 _ _ hv)
      · obtain ⟨es, e1, e2⟩ := k3
        exact ⟨es, by rw [upd_ne nL.symm]; exact e1, e2⟩
    · exact ⟨_, acc, b, m2, rfl, g1, kp, tp, hacc, hta, ob, by omega, ⟨ds, hds, hdl⟩, l2⟩
  · rintro σ H2 ⟨ko, acc, b, m2, rfl, _, kp, tp, hacc, hta, ob, lb, k2, l2⟩
    refine ⟨_, rfl, L, _, rfl, .inl ⟨SqL.of hacc, fun l hl => ?_⟩⟩
    have s3 := same_new hl (.tup acc)
    refine q _ b m2 _ ⟨fun x o nx e => ?_, ?_⟩ (k2.same s3) (by omega) (fun z => by have := lt1 z; omega) (tp_tup sqt_new (TpAll.mono (Tups.same s3) _ _ hta)) ob (by omega)
    · exact s3 _ _ (kp _ _ nx (ne_of_none e hL) (g1.keep _ _ nx (s0 _ _ e)))
    · exact (Tups.same s0).trans (g1.tups.trans (tp.trans (Tups.same s3)))
end
end TH
set_option Elab.async false
set_option linter.all false

set_option maxRecDepth 100000
set_option maxHeartbeats 4000000
namespace TH
open PySem PySem.Spec PyProof.Rows L2
abbrev sProg : Stmt := top 42
def spProgram (K : PySem.W.Frag) : Sp := fun vs H Q _ => ∃ (d : Addr) (m : Nat), vs = [.ref d] ∧ DkAt H d m ∧ m ≤ 1000 ∧ ∀ v p H', Gm d H H' → Tp K H' (encProg p) v → p.Ok → Q v H'
theorem encWs_snoc : ∀ (i : Nat) (ws : Ws) (w : Nat × B), encWs i (ws ++ [w]) = encWs i ws ++ [encW (i + ws.length) w]
  | _, [], _ => rfl
  | i, u :: r, w => by
    show encW i u :: encWs (i + 1) (r ++ [w]) = encW i u :: (encWs (i + 1) r ++ [encW (i + (r.length + 1)) w])
    rw [encWs_snoc, show i + 1 + r.length = i + (r.length + 1) by omega]
theorem wsok_snoc {ws : Ws} {w : Nat × B} (h : WsOk ws) (h1 : w.1 ≤ 4) (h2 : BOk (arW ws) w.1 w.2 3 false) (h3 : blen w.2 ≤ 50) : WsOk (ws ++ [w]) := by
  intro i u e
  by_cases c : i < ws.length
  · rw [List.getElem?_append_left c] at e
    obtain ⟨a1, a2, a3⟩ := h i u e
    refine ⟨a1, ?_, a3⟩
    have : arOf (ws ++ [w]) i = arOf ws i := by
      unfold arOf
      rw [List.take_append_of_le_length (Nat.le_of_lt c)]
    rw [this]
    exact a2
  · have ei : i = ws.length := by
      have := (List.getElem?_eq_some_iff.mp e).1
      rw [List.length_append] at this
      have t : ([w] : Ws).length = 1 := rfl
      omega
    subst ei
    have eu : u = w := by
      rw [List.getElem?_append_right (Nat.le_refl _), Nat.sub_self] at e
      exact (Option.some.inj e).symm
    subst eu
    refine ⟨h1, ?_, h3⟩
    have : arOf (ws ++ [u]) ws.length = arW ws := by
      unfold arOf
      rw [List.take_append_of_le_length (Nat.le_refl _), List.take_length]
    rw [this]
    exact h2
theorem names_at {i : Nat} (h : i < 6) : atI [V.str "leaf", V.str "go", V.str "x", V.str "star", V.str "turn", V.str "backward"] (0 + (i : Int)) = some (V.str (wname i)) := by
  have : i = 0 ∨ i = 1 ∨ i = 2 ∨ i = 3 ∨ i = 4 ∨ i = 5 := by omega
  rcases this with rfl | rfl | rfl | rfl | rfl | rfl
  · exact atI_nat (j := 0) rfl
  · exact atI_nat (j := 1) rfl
  · exact atI_nat (j := 2) rfl
  · exact atI_nat (j := 3) rfl
  · exact atI_nat (j := 4) rfl
  · exact atI_nat (j := 5) rfl
theorem len6 : 6 ≤ sizeLine := by rw [sizeLine_eq]; decide
section
variable {P : Program} {w : World} {K : PySem.W.Frag} {mg : Str → Option Value} {base : Heap}
abbrev gPs : List Str := ["_law_deck_here", "_law_deep", "_law_inside", "_law_takes", "_law_words"]
theorem ok_bodyg {fB fS fR fC fN fA fM fW : Addr} {fdB fdS fdR fdC fdN fdA fdM fdW : FuncData} (B0 : Bl mg) (DN : Dn P w K mg base CX0 1 "_law_next" fN fdN ["_law_deck_here"] spNext)
    (DA : Dn P w K mg base CX0 2 "_law_amount" fA fdA ["_law_deck_here", "_law_inside", "_law_takes"] (spAmt K)) (DM : Dn P w K mg base CX0 2 "_law_mark" fM fdM ["_law_deck_here"] spMarkG)
    (DW : Dn P w K mg base CX0 3 "_law_call" fW fdW ["_law_deck_here", "_law_inside", "_law_takes", "_law_words"] (spCallG K))
    (FB : Fun K "_law_body" "_law_body" sBodyG fB fdB) (gB : mg "_law_body" = some (.ref fB)) (bB : Binds K fdB gPs [])
    (FS : Fun K "_law_statement" "_law_statement" sStmtG fS fdS) (gS : mg "_law_statement" = some (.ref fS)) (bS : Binds K fdS gPs [])
    (FR : Fun K "_law_rounds" "_law_rounds" sRounds fR fdR) (gR : mg "_law_rounds" = some (.ref fR)) (bR : Binds K fdR gPs [])
    (FC : Fun K "_law_choice" "_law_choice" sChoice fC fdC) (gC : mg "_law_choice" = some (.ref fC)) (bC : Binds K fdC gPs []) :
    ∀ n : Nat, FnOk P w K mg base CX0 (3 * n + 3) fB fdB gPs (spBodyG K n)
  | 0 => by
    have no : ∀ vs H Q E, ¬ spBodyG K 0 vs H Q E := fun vs H Q E h => by
      obtain ⟨_, _, _, _, _, _, _, _, _, _, _, _, z, _⟩ := h
      omega
    exact ⟨fun vs H Q E h => absurd h (no vs H Q E), fun A outer s H args us vs Q E _ _ _ _ h => absurd h (no vs H Q E)⟩
  | n + 1 => by
    have ih : Dn P w K mg base CX0 (3 * n + 3) "_law_body" fB fdB gPs (spBodyG K n) := ⟨ok_bodyg B0 DN DA DM DW FB gB bB FS gS bS FR gR bR FC gC bC n, gB, FB.kp, bB⟩
    have kr : Dn P w K mg base CX0 (3 * n + 4) "_law_rounds" fR fdR gPs (spRounds K n) := ⟨ok_rounds FR DN DA ih, gR, FR.kp, bR⟩
    have kc : Dn P w K mg base CX0 (3 * n + 4) "_law_choice" fC fdC gPs (spChoice K n) := ⟨ok_choice FC DA ih, gC, FC.kp, bC⟩
    exact ok_bodyg1 FB B0 DN ⟨ok_stmtg FS B0 DN DA DM kr kc DW, gS, FS.kp, bS⟩
theorem sc_prog : FnScope ["_law_deck_here", "_law_words", "_law_kind", "_law_most_here", "_law_k", "_law_body_here", "_law_many", "_law_name"] ["_law_deck_here"] (defScope sProg) := ⟨rfl, rfl, rfl, by decide +kernel, rfl, by decide +kernel, by decide +kernel⟩
theorem ok_prog {f fN fB : Addr} {fd fdN fdB : FuncData} (F : Fun K "_law_program" "_law_program" sProg f fd) (B0 : Bl mg) (DN : Dn P w K mg base CX0 1 "_law_next" fN fdN ["_law_deck_here"] spNext)
    (DB : Dn P w K mg base CX0 18 "_law_body" fB fdB gPs (spBodyG K 5)) : FnOk P w K mg base CX0 19 f fd ["_law_deck_here"] (spProgram K) := by
  refine F.ok sc_prog (fun vs H Q E h => ?_) (fun cdv A outer s H vs Q E hr h => ?_)
  · obtain ⟨d, m, rfl, _⟩ := h
    rfl
  obtain ⟨d, m, rfl, hdk, hm, q⟩ := h
  refine ⟨_, (pss_cons (ps_set (i := 1) sc_prog.nd rfl (.inl rfl) (pe_lst pa_nil))
    (pss_cons (ps_set (i := 2) sc_prog.nd rfl (.inl rfl) (dn_call DN hr (by omega) rfl pass0 (pa_cons (pv 0) pa_nil)))
    (pss_cons (ps_set (i := 3) sc_prog.nd rfl (.inl rfl) (pe_op op_add (pe_op op_add pe_int (pe_op op_mul pe_int (pe_callTy call_int1 (by rfl) B0.int (by decide +kernel) (pa_cons (pe_cmpR op_eq (pe_op op_mod (pe_op op_fdiv (pv 2) pe_int) pe_int) pe_int (nomark _)) pa_nil)))) (pe_op op_mul pe_int (pe_callTy call_int1 (by rfl) B0.int (by decide +kernel) (pa_cons (pe_cmpR op_eq (pe_op op_mod (pe_op op_fdiv (pv 2) pe_int) pe_int) pe_int (nomark _)) pa_nil)))))
    (pss_cons (ps_for PassesOwn.never rfl (pi_range1 rfl B0.range (pa_cons (pe_op op_mod (pv 2) (pv 3)) pa_nil)) (pg_name (i := 4) sc_prog.nd rfl (.inl rfl)) (pss_cons (ps_set (i := 6) sc_prog.nd rfl (.inl rfl) (pe_op op_mod (dn_call DN hr (by omega) rfl pass0 (pa_cons (pv 0) pa_nil)) (pe_callB (call_min2 rfl) (by rfl) B0.min (by decide +kernel) (pa_cons pe_int (pa_cons (pv 3) pa_nil)))))
    (pss_cons (ps_set (i := 7) sc_prog.nd rfl (.inl rfl) (pe_ix ix_list (pe_lst (pa_cons pe_str (pa_cons pe_str (pa_cons pe_str (pa_cons pe_str (pa_cons pe_str (pa_cons pe_str pa_nil))))))) (pv 4) (fun _ _ => rfl)))
    (pss_one (ps_expr (pe_bm PySem.F.plainAttrs_list PySem.F.slot_list_append PySem.F.type_list_append mt_append (pv 1) (pa_cons (pe_tup (pa_cons (pv 7) (pa_cons (pv 6) (pa_cons (dn_call DB hr (by omega) rfl pass0 (pa_cons (pv 0) (pa_cons pe_int (pa_cons pe_bl (pa_cons (pv 6) (pa_cons (pv 1) pa_nil)))))) pa_nil)))) pa_nil)))))))
    (pss_cons (ps_set (i := 5) sc_prog.nd rfl (.inl rfl) (pe_tup pa_nil))
    (pss_cons (ps_while PassesOwn.never (PW.pt (pw_and (pt_cmpR op_gt (pe_callB call_len_seq (by rfl) B0.len (by decide +kernel) (pa_cons (pv 0) pa_nil)) pe_int (nomark _)) (pw_and1 (pt_cmpR op_lt (pe_callB call_len_seq (by rfl) B0.len (by decide +kernel) (pa_cons (pv 5) pa_nil)) pe_int (nomark _))))) (pss_one (ps_set (i := 5) sc_prog.nd rfl (.inl rfl) (pe_op op_catA (pv 5) (dn_call DB hr (by omega) rfl pass0 (pa_cons (pv 0) (pa_cons pe_int (pa_cons pe_bl (pa_cons pe_int (pa_cons (pv 1) pa_nil))))))))))
    (pss_one (ps_ret (pe_tup (pa_cons (pe_callTy call_tuple_of (by rfl) B0.tup (by decide +kernel) (pa_cons (pv 1) pa_nil)) (pa_cons (pv 5) pa_nil))))))))))), ?_⟩
  refine ⟨Nat.zero_le _, fun L hL => ?_⟩
  have s0 := same_new hL (.lst [])
  have nL : L ≠ d := fun e => by
    obtain ⟨ds, e1, _⟩ := hdk
    rw [e, e1] at hL
    cases hL
  refine ⟨_, rfl, d, m, rfl, hdk.same s0, fun r m1 H1 g1 k1 l1 _ => ?_⟩
  refine ⟨_, rfl, _, _, rfl, rfl, ⟨by decide, by decide⟩, _, _, rfl, rfl, (by show (0 : Int) < 8; decide), rfl, .inr ⟨_, rfl, _, _, rfl, rfl, .inl ⟨by decide, by decide⟩, _, _, rfl, rfl, ?_⟩⟩
  refine ⟨_, rfl, _, _, rfl, rfl, ⟨by decide, by decide⟩, _, _, rfl, rfl, (by show (0 : Int) < 8; decide), rfl, .inr ⟨_, rfl, _, _, rfl, rfl, .inl ⟨by decide, by decide⟩, _, _, rfl, rfl, ?_⟩⟩
  have hN : ∀ N : Int, N = 3 + 2 * (if decide (V.int (r / 15 % 8) = V.int 1) = true then 1 else 0) + 4 * (if decide (V.int (r / 15 % 8) = V.int 2) = true then 1 else 0) → 3 ≤ N ∧ N ≤ 7 := by
    intro N e
    subst e
    by_cases c1 : r / 15 % 8 = 1
    · rw [decide_eq_true (congrArg V.int c1), decide_eq_false (fun z => by have := V.int.inj z; omega)]
      decide
    · rw [decide_eq_false (fun z => c1 (V.int.inj z))]
      by_cases c2 : r / 15 % 8 = 2
      · rw [decide_eq_true (congrArg V.int c2)]
        decide
      · rw [decide_eq_false (fun z => c2 (V.int.inj z))]
        decide
  obtain ⟨n3, n7⟩ := hN _ rfl
  generalize hNe : (3 + 2 * (if decide (V.int (r / 15 % 8) = V.int 1) = true then 1 else 0) + 4 * (if decide (V.int (r / 15 % 8) = V.int 2) = true then 1 else 0) : Int) = N at n3 n7
  have r0 : 0 ≤ r % N := Int.emod_nonneg _ (by omega)
  have r1 : r % N < N := Int.emod_lt_of_pos _ (by omega)
  refine ⟨_, rfl, _, rfl, r, N, rfl, congrArg V.int hNe, (by omega), r % N, rfl, by omega, by omega, ?_⟩
  refine for_range (lo := 0) (n := (r % N).toNat) (fun i σ H2 => ∃ (ko mo no : Option V) (acc : List V) (ws : Ws) (m2 : Nat), σ = [some (.ref d), some (.ref L), some (.int r), some (.int N), ko, none, mo, no] ∧ (∀ x o, x ≠ d → x ≠ L → H1 x = some o → H2 x = some o) ∧ Tups H1 H2 ∧
      H2 L = some (.lst acc) ∧ TpAll K H2 (encWs 0 ws) acc ∧ ws.length = i ∧ WsOk ws ∧ DkAt H2 d m2 ∧ m2 ≤ m1)
    ⟨none, none, none, [], [], m1, congrArg (fun z => [some (V.ref d), some (V.ref L), some (V.int r), some (V.int z), none, none, none, none]) hNe, fun _ _ _ _ h => h, Tups.refl _, g1.keep _ _ nL upd_same, tpa_nil, rfl, (fun i w e => by cases i <;> cases e), k1, Nat.le_refl _⟩ ?_ ?_
  · rintro i σ H2 hi ⟨ko, mo, no, acc, ws, m2, rfl, kp, tp, hacc, hta, hwl, hws, k2, l2⟩
    have i6 : i < 6 := by omega
    refine ⟨_, rfl, d, m2, rfl, k2, fun z m3 H3 g3 k3 l3 _ => ?_⟩
    have hacc3 := g3.keep L _ nL hacc
    have hm5 : 3 ≤ (if N < 5 then N else 5) ∧ (if N < 5 then N else 5) ≤ 5 := by split <;> omega
    refine ⟨_, rfl, _, _, rfl, _, _, rfl, rfl, (by show 0 < (if N < 5 then N else 5); omega), ?_⟩
    have y0 : 0 ≤ z % (if N < 5 then N else 5) := Int.emod_nonneg _ (by omega)
    have y1 : z % (if N < 5 then N else 5) < (if N < 5 then N else 5) := Int.emod_lt_of_pos _ (by omega)
    generalize hy : z % (if N < 5 then N else 5) = y at y0 y1
    obtain ⟨t, rfl⟩ : ∃ t : Nat, y = (t : Int) := ⟨y.toNat, by omega⟩
    refine ⟨len6, fun l hl => ?_⟩
    have s4 := same_new hl (.lst [.str "leaf", .str "go", .str "x", .str "star", .str "turn", .str "backward"])
    refine ⟨_, rfl, l, _, _, _, rfl, rfl, SqL.of upd_same, names_at i6, ?_⟩
    have hacc4 := s4 _ _ hacc3
    have G4 : MakeAt K (upd H3 l (.lst [.str "leaf", .str "go", .str "x", .str "star", .str "turn", .str "backward"])) d m3 L ws t :=
      ⟨k3.same s4, ⟨acc, hacc4, TpAll.mono (g3.tups.trans (Tups.same s4)) _ _ hta⟩, nL, by omega, fun w hw => by
        obtain ⟨j, hj⟩ := List.getElem?_of_mem hw
        exact (hws j w hj).1, by omega, by omega⟩
    refine ⟨_, rfl, .inl ⟨rfl, _, SqL.of hacc4⟩, _, rfl, _, rfl, _, rfl, _, rfl, _, rfl, d, L, m3, t, 3, 1, ws, false, ?_, G4, by decide, by decide, by decide, fun v b m5 H5 g5 k5 l5 _ hv ob lb => ?_⟩
    · exact congrArg (fun q => [V.ref d, V.int 1, V.bl false, V.int q, V.ref L]) hy
    refine ⟨len3, fun p hp => ?_⟩
    have s6 := same_new hp (.tup [.str (wname i), .int t, v])
    have hacc6 := s6 _ _ (g5.keep L _ nL hacc4)
    have e6 : (upd H5 p (.tup [V.str (wname i), (fun i j => V.int (i % j)) z (if N < 5 then N else 5), v])) = upd H5 p (.tup [.str (wname i), .int t, v]) := by
      show upd H5 p (.tup [.str (wname i), .int (z % (if N < 5 then N else 5)), v]) = _
      rw [hy]
    have lacc : acc.length = i := by
      have := hta.len
      rw [encWs_len] at this
      omega
    have t56 := g3.tups.trans ((Tups.same s4).trans (g5.tups.trans (Tups.same s6)))
    have fin : ∀ (ko mo no : Option V), ∃ (ko2 mo2 no2 : Option V) (acc2 : List V) (ws2 : Ws) (m6 : Nat), [some (V.ref d), some (V.ref L), some (V.int r), some (V.int N), ko, none, mo, no] = [some (.ref d), some (.ref L), some (.int r), some (.int N), ko2, none, mo2, no2] ∧
        (∀ x o, x ≠ d → x ≠ L → H1 x = some o → (upd (upd H5 p (.tup [.str (wname i), .int t, v])) L (.lst (acc ++ [.ref p]))) x = some o) ∧ Tups H1 (upd (upd H5 p (.tup [.str (wname i), .int t, v])) L (.lst (acc ++ [.ref p]))) ∧
        (upd (upd H5 p (.tup [.str (wname i), .int t, v])) L (.lst (acc ++ [.ref p]))) L = some (.lst acc2) ∧ TpAll K (upd (upd H5 p (.tup [.str (wname i), .int t, v])) L (.lst (acc ++ [.ref p]))) (encWs 0 ws2) acc2 ∧ ws2.length = i + 1 ∧ WsOk ws2 ∧
        DkAt (upd (upd H5 p (.tup [.str (wname i), .int t, v])) L (.lst (acc ++ [.ref p]))) d m6 ∧ m6 ≤ m1 := by
      intro ko mo no
      have t7 : Tups (upd H5 p (.tup [.str (wname i), .int t, v])) (upd (upd H5 p (.tup [.str (wname i), .int t, v])) L (.lst (acc ++ [.ref p]))) := tups_upd hacc6 nt_lst
      refine ⟨_, _, _, acc ++ [.ref p], ws ++ [(t, b)], m5, rfl, fun x o nx nl e => ?_, tp.trans (t56.trans t7), upd_same, ?_, by rw [List.length_append, hwl]; rfl, wsok_snoc hws (by show t ≤ 4; omega) ob (by show blen b ≤ 50; omega), ?_, by omega⟩
      · rw [upd_ne nl]
        exact s6 _ _ (g5.keep _ _ nx (s4 _ _ (g3.keep _ _ nx (kp _ _ nx nl e))))
      · rw [encWs_snoc, Nat.zero_add, hwl]
        exact TpAll.snoc (TpAll.mono (t56.trans t7) _ _ hta) (Tp.mono t7 _ _ (tp_tup sqt_new (tpa_cons tp_str (tpa_cons tp_int (tpa_cons (Tp.mono (Tups.same s6) _ _ hv) tpa_nil)))))
      · obtain ⟨es, e1, e2⟩ := k5.same s6
        exact ⟨es, by rw [upd_ne nL.symm]; exact e1, e2⟩
    refine ⟨L, acc, _, rfl, rfl, ?_, small1000 (by omega), ?_⟩
    · rw [e6]
      exact hacc6
    · rw [e6]
      exact fin _ _ _
  · rintro σ H2 ⟨ko, mo, no, acc, ws, m2, rfl, kp, tp, hacc, hta, hwl, hws, k2, l2⟩
    have w6 : ws.length ≤ 6 := by omega
    have wm : ∀ w ∈ ws, w.1 ≤ 4 := fun w hw => by
      obtain ⟨j, hj⟩ := List.getElem?_of_mem hw
      exact (hws j w hj).1
    refine ⟨Nat.zero_le _, fun e0 he0 => ?_⟩
    have s3 := same_new he0 (.tup [])
    refine ⟨fun k σ H4 => ∃ (e : Addr) (b : B) (ys : List V), σ = [some (.ref d), some (.ref L), some (.int r), some (.int N), ko, some (.ref e), mo, no] ∧ (∀ x o, x ≠ d → H2 x = some o → H4 x = some o) ∧ Tups H2 H4 ∧ SqT K H4 e ys ∧ TpAll K H4 (encB b) ys ∧ BOk (arW ws) 0 b 4 false ∧ blen b ≤ 17 ∧ DkAt H4 d k ∧ k ≤ m2,
      ⟨m2, e0, .nil, [], rfl, fun x o _ h => s3 _ _ h, Tups.same s3, sqt_new, tpa_nil, trivial, Nat.zero_le _, k2.same s3, Nat.le_refl _⟩, ?_⟩
    rintro k σ H4 ⟨e, b, ys, rfl, kp4, tp4, hse, hyt, ob, lb, k4, l4⟩
    have hyl : ys.length = blen b := by
      have := hyt.len
      rw [encB_len] at this
      exact this
    have hL4 := kp4 _ _ nL hacc
    have stopq : ∀ l q', H4 l = none → upd H4 l (.tup acc) q' = none → Q (.ref q') (upd (upd H4 l (.tup acc)) q' (.tup [V.ref l, V.ref e])) := by
      intro l q' hl hq'
      have s5 := same_new hl (.tup acc)
      have s6 := same_new hq' (.tup [V.ref l, V.ref e])
      have t56 := Tups.same (s5.trans s6)
      refine q _ ⟨ws, b⟩ _ ⟨fun x o nx ex => ?_, ?_⟩ (tp_tup sqt_new (tpa_cons (tp_tup ((Tups.same s6).sq sqt_new) (TpAll.mono (tp4.trans t56) _ _ hta)) (tpa_cons (tp_tup (t56.sq hse) (TpAll.mono t56 _ _ hyt)) tpa_nil))) ⟨w6, hws, ob, by show blen b ≤ 50; omega⟩
      · exact s6 _ _ (s5 _ _ (kp4 _ _ nx (kp _ _ nx (ne_of_none ex hL) (g1.keep _ _ nx (s0 _ _ ex)))))
      · exact (Tups.same s0).trans (g1.tups.trans (tp.trans (tp4.trans t56)))
    obtain ⟨es, e1, e2⟩ := id k4
    refine ⟨_, rfl, d, _, rfl, .inl (SqL.of e1), _, _, rfl, rfl, _, rfl, ifd (fun c1 => ?_) (fun _ => ⟨_, rfl, L, acc, rfl, .inl ⟨SqL.of hL4, fun l hl => ⟨_, rfl, len2, fun q' hq' => stopq l q' hl hq'⟩⟩⟩)⟩
    refine ⟨_, rfl, e, _, rfl, .inr hse, _, _, rfl, rfl, _, rfl, ifd (fun c2 => ?_) (fun _ => ⟨_, rfl, L, acc, rfl, .inl ⟨SqL.of hL4, fun l hl => ⟨_, rfl, len2, fun q' hq' => stopq l q' hl hq'⟩⟩⟩)⟩
    rw [List.length_map] at c1
    have G4 : MakeAt K H4 d k L ws 0 := ⟨k4, ⟨acc, kp4 _ _ nL hacc, TpAll.mono tp4 _ _ hta⟩, nL, w6, wm, by omega, by omega⟩
    refine ⟨_, fun _ _ h => h, _, rfl, _, rfl, _, rfl, d, L, k, 0, 4, 0, ws, false, rfl, G4, by decide, by decide, by decide, fun v b2 m5 H5 g5 k5 l5 lt5 hv ob5 lb5 => ?_⟩
    obtain ⟨a2, ys2, rfl, hs2, ht2⟩ := hv
    have hyl2 : ys2.length = blen b2 := by
      have := ht2.len
      rw [encB_len] at this
      exact this
    have hse5 := g5.tups.sq hse
    have fin : ∀ p H6, Same H5 H6 → SqT K H6 p (ys ++ ys2) → ∃ m', m' < k ∧ ∃ (e : Addr) (b : B) (zs : List V), [some (V.ref d), some (V.ref L), some (V.int r), some (V.int N), ko, some (V.ref p), mo, no] = [some (.ref d), some (.ref L), some (.int r), some (.int N), ko, some (.ref e), mo, no] ∧ (∀ x o, x ≠ d → H2 x = some o → H6 x = some o) ∧ Tups H2 H6 ∧ SqT K H6 e zs ∧ TpAll K H6 (encB b) zs ∧ BOk (arW ws) 0 b 4 false ∧ blen b ≤ 17 ∧ DkAt H6 d m' ∧ m' ≤ m2 := by
      intro p H6 s6 hp
      have t56 := g5.tups.trans (Tups.same s6)
      refine ⟨m5, lt5 (by omega), p, b.app b2, ys ++ ys2, rfl, fun x o nx ex => s6 _ _ (g5.keep _ _ nx (kp4 _ _ nx ex)), tp4.trans t56, hp, ?_, bok_app ob5 b ob, by rw [blen_app]; omega, k5.same s6, by omega⟩
      rw [encB_app]
      exact TpAll.append (TpAll.mono t56 _ _ hyt) (TpAll.mono (Tups.same s6) _ _ ht2)
    refine ⟨e, a2, ys, ys2, rfl, rfl, hse5, hs2, Nat.le_of_lt (small1000 (by omega)), fun z => ?_, fun _ z => ?_, fun _ _ p hp => ?_⟩
    · exact fin a2 H5 (fun _ _ h => h) (by rw [z]; exact hs2)
    · exact fin e H5 (fun _ _ h => h) (by rw [z, List.append_nil]; exact hse5)
    · exact fin p _ (same_new hp _) sqt_new
end
end TH
set_option Elab.async false
set_option linter.all false

set_option maxRecDepth 100000
set_option maxHeartbeats 4000000
namespace TH
open PySem PySem.Spec PyProof.Rows L2 RZ
abbrev sScaled : Stmt := top 44
abbrev sMost : Stmt := top 45
abbrev nScaled : List Str := ["_law_place", "_law_factor", "_law_number"]
abbrev nMost : List Str := ["_law_ran_here", "_law_free", "_law_many", "_law_corners", "_law_far", "_law_one", "_law_other", "_law_here", "_law_there"]
def spScaled (K : PySem.W.Frag) : Sp := fun vs H Q _ => ∃ (v : V) (p : Pt) (F : Int), vs = [v, .int F] ∧ Tp K H (encP p) v ∧ PtB 1000000000 p ∧ 1 ≤ F ∧ F ≤ 1000 ∧
  ∀ v' H', Same H H' → Tp K H' (encP (p.sc F)) v' → Q v' H'
def spMost (K : PySem.W.Frag) : Sp := fun vs H Q _ => ∃ (l : Addr) (e : Str) (x : V) (fr many : Int), vs = [.ref l, .int fr, .int many] ∧ H l = some (.lst [.str e, x]) ∧ ∃ Good : Int → Prop,
  (e ≠ "" ∨ fr = 0 → Good (if many > 4 then 3 else 9)) ∧
  (e = "" → fr ≠ 0 → ∃ (z : Addr) (h : Hd) (d : Bool), x = .ref z ∧ RunTup K H z h d ∧ h.corners ≠ [] ∧ (∀ p ∈ h.corners, PtB 1000000000 p) ∧
    ∀ m f, 1 ≤ f → Cov h.corners f → 1 ≤ m → m ≤ 1000 → (m = 1 ∨ m ≤ 1000000 / f) → Good m) ∧ ∀ m H', Same H H' → Good m → Q (.int m) H'
theorem mul_ok {a F : Int} (h1 : -1000000000 ≤ a) (h2 : a ≤ 1000000000) (f1 : 1 ≤ F) (f2 : F ≤ 1000) : CMulW a F :=
  wide_mul (a := 30) (b := 10) (by have : (2 : Nat) ^ 30 = 1073741824 := by decide
                                   omega) (by have : (2 : Nat) ^ 10 = 1024 := by decide
                                              omega) (by decide) (by decide) (by decide)
theorem ifsn {x y : Str} {A B : Prop} (h1 : x ≠ y → A) (h2 : x = y → B) : if (!decide (V.str x = V.str y)) = true then A else B := by
  by_cases c : x = y
  · rw [if_neg (by rw [decide_eq_true (congrArg V.str c)]; exact Bool.false_ne_true)]
    exact h2 c
  · rw [if_pos (by rw [decide_eq_false (fun z => c (V.str.inj z))]; rfl)]
    exact h1 c
theorem cut_init {ys : List V} (h : ys ≠ []) : cutV ys none (some (-1)) = ys.take (ys.length - 1) := by
  have n : 1 ≤ ys.length := by cases ys with
    | nil => exact absurd rfl h
    | cons y r => exact Nat.succ_le_succ (Nat.zero_le _)
  have e : HT.sIx ys.length ys.length (some (-1)) = ys.length - 1 := by
    show (if (-1 : Int) < 0 then (-1 + (ys.length : Int)).toNat else min (-1 : Int).toNat ys.length) = _
    rw [if_pos (by decide)]
    omega
  show (ys.drop 0).take (HT.sIx ys.length ys.length (some (-1)) - 0) = _
  rw [e]
  rfl
theorem cut_from {ys : List V} {k : Nat} (h : k ≤ ys.length) : cutV ys (some (k : Int)) none = ys.drop k := by
  have e : HT.sIx ys.length 0 (some (k : Int)) = k := by
    rw [HT.sIx_nat]
    omega
  show (ys.drop (HT.sIx ys.length 0 (some (k : Int)))).take (ys.length - HT.sIx ys.length 0 (some (k : Int))) = _
  rw [e, List.take_of_length_le]
  rw [List.length_drop]
  omega
abbrev teScaled (K : PySem.W.Frag) : TE := tTup (tCons (tOp (rI CMulW fun i j => V.int (i * j)) (tOp (rIxT K) (tVar 2) (tC (.int 0))) (tVar 1)) (tCons (tOp (rI CMulW fun i j => V.int (i * j)) (tOp (rIxT K) (tVar 2) (tC (.int 1))) (tVar 1)) tNil))
theorem most_few {K : PySem.W.Frag} {H : Hp} {l2 : Addr} {many : Int} {Q : VK} (hl2 : H l2 = none) (q : ∀ H', Same H H' → Q (.int (if many > 4 then 3 else 9)) H') : rIxL K (.ref l2) (.int (if decide (4 < many) = true then 1 else 0)) (upd H l2 (.lst [.int 9, .int 3])) Q := by
  have r := q _ (same_new hl2 (.lst [.int 9, .int 3]))
  by_cases c : (4 : Int) < many
  · rw [if_pos (decide_eq_true c)]
    rw [if_pos c] at r
    exact ⟨l2, _, 1, .int 3, rfl, rfl, SqL.of upd_same, atI_nat (j := 1) rfl, r⟩
  · rw [if_neg (by rw [decide_eq_false c]; exact Bool.false_ne_true)]
    rw [if_neg c] at r
    exact ⟨l2, _, 0, .int 9, rfl, rfl, SqL.of upd_same, atI_nat (j := 0) rfl, r⟩
def CovI (cs : List Pt) (n : Nat) (f : Int) : Prop := ∀ (i : Nat) (a b : Pt), i < n → cs[i]? = some a → cs[i + 1]? = some b → ((b.ax - a.ax).natAbs : Int) ≤ f ∧ ((b.bx - a.bx).natAbs : Int) ≤ f ∧ ((b.ay - a.ay).natAbs : Int) ≤ f ∧ ((b.cy - a.cy).natAbs : Int) ≤ f
theorem corner_at {K : PySem.W.Frag} {H : Hp} {cs : List Pt} {ys : List V} (h : TpAll K H (cs.map encP) ys) {i : Nat} {x : V} (e : ys[i]? = some x) : ∃ p, cs[i]? = some p ∧ Tp K H (encP p) x := by
  obtain ⟨d, hd, t⟩ := TpAll.get h e
  rw [List.getElem?_map] at hd
  cases c : cs[i]? with
  | none => rw [c] at hd; cases hd
  | some p => rw [c] at hd; cases hd; exact ⟨p, rfl, t⟩
theorem pt_at {K : PySem.W.Frag} {H : Hp} {p : Pt} {v : V} (h : Tp K H (encP p) v) : ∃ a a1 a2, v = .ref a ∧ SqT K H a [.ref a1, .ref a2] ∧ SqT K H a1 [.int p.ax, .int p.bx] ∧ SqT K H a2 [.int p.ay, .int p.cy] := by
  obtain ⟨a, xs, rfl, hs, hx⟩ := Tp.t h
  obtain ⟨x1, r1, rfl, h1, hx⟩ := hx.c
  obtain ⟨x2, r2, rfl, h2, hx⟩ := hx.c
  obtain rfl := hx.n
  obtain ⟨a1, xs1, rfl, hs1, hx1⟩ := Tp.t h1
  obtain ⟨y1, r1, rfl, g1, hx1⟩ := hx1.c
  obtain ⟨y2, r2, rfl, g2, hx1⟩ := hx1.c
  obtain rfl := hx1.n
  obtain rfl := g1.i
  obtain rfl := g2.i
  obtain ⟨a2, xs2, rfl, hs2, hx2⟩ := Tp.t h2
  obtain ⟨y3, r1, rfl, g3, hx2⟩ := hx2.c
  obtain ⟨y4, r2, rfl, g4, hx2⟩ := hx2.c
  obtain rfl := hx2.n
  obtain rfl := g3.i
  obtain rfl := g4.i
  exact ⟨a, a1, a2, rfl, hs, hs1, hs2⟩
section
variable {P : Program} {w : World} {K : PySem.W.Frag} {mg : Str → Option Value} {base : Heap}
theorem sc_scaled : FnScope nScaled ["_law_place", "_law_factor"] (defScope sScaled) := ⟨rfl, rfl, rfl, by decide +kernel, rfl, by decide +kernel, by decide +kernel⟩
theorem sc_most : FnScope nMost ["_law_ran_here", "_law_free", "_law_many"] (defScope sMost) := ⟨rfl, rfl, rfl, by decide +kernel, rfl, by decide +kernel, by decide +kernel⟩
theorem ok_scaled {f : Addr} {fd : FuncData} (F : Fun K "_law_scaled" "_law_scaled" sScaled f fd) (B0 : Bl mg) : FnOk P w K mg base CX0 1 f fd ["_law_place", "_law_factor"] (spScaled K) := by
  refine F.ok sc_scaled (fun vs H Q E h => ?_) (fun cdv A outer s H vs Q E hr h => ?_)
  · obtain ⟨v, p, F, rfl, _⟩ := h
    rfl
  obtain ⟨v, p, F, rfl, hp, hpb, f1, f2, q⟩ := h
  obtain ⟨⟨b1, b2⟩, ⟨b3, b4⟩, ⟨b5, b6⟩, b7, b8⟩ := hpb
  refine ⟨_, (pss_one (ps_ret (pe_callTy call_tuple_of (by rfl) B0.tup (by decide +kernel) (pa_cons (pe_lc (own := [("_law_number", 2)]) (g := (gName 2)) (te := (teScaled K)) (by rfl) sc_scaled.nd (pi_tup (pv 0)) (blkOk_by (N := nScaled) (sc := defScope sScaled) (by decide +kernel)) (fun _ _ _ _ _ => by exact (pg_name (i := 2) sc_scaled.nd rfl (.inl rfl))) (fun _ _ _ _ _ => pts_nil) (fun _ _ _ _ _ => by exact (pe_tup (pa_cons (pe_op op_mulW (pe_ix ix_tup (pv 2) pe_int (fun _ _ => rfl)) (pv 1)) (pa_cons (pe_op op_mulW (pe_ix ix_tup (pv 2) pe_int (fun _ _ => rfl)) (pv 1)) pa_nil))))) pa_nil)))), ?_⟩
  obtain ⟨a, xs, rfl, hs, hx⟩ := Tp.t hp
  obtain ⟨x1, r1, rfl, h1, hx⟩ := hx.c
  obtain ⟨x2, r2, rfl, h2, hx⟩ := hx.c
  obtain rfl := hx.n
  obtain ⟨a1, xs1, rfl, hs1, hx1⟩ := Tp.t h1
  obtain ⟨y1, r1, rfl, g1, hx1⟩ := hx1.c
  obtain ⟨y2, r2, rfl, g2, hx1⟩ := hx1.c
  obtain rfl := hx1.n
  obtain rfl := g1.i
  obtain rfl := g2.i
  obtain ⟨a2, xs2, rfl, hs2, hx2⟩ := Tp.t h2
  obtain ⟨y3, r1, rfl, g3, hx2⟩ := hx2.c
  obtain ⟨y4, r2, rfl, g4, hx2⟩ := hx2.c
  obtain rfl := hx2.n
  obtain rfl := g3.i
  obtain rfl := g4.i
  refine ⟨_, rfl, a, rfl, ⟨_, hs⟩, fun D' hD => lc_tup (K := K) (a := a) (xs := [.ref a1, .ref a2]) (fun i H2 => ∃ (acc : List V), Same H H2 ∧ H2 D' = some (.lst acc) ∧ acc.length = i ∧ TpAll K H2 (([.tuple [.int (p.ax * F), .int (p.bx * F)], .tuple [.int (p.ay * F), .int (p.cy * F)]] : List PyData).take i) acc)
    ⟨[], same_new hD _, upd_same, rfl, tpa_nil⟩ (fun i H2 _ ⟨_, s2, _⟩ => (Tups.same s2).sq hs) ?_ ?_⟩
  · rintro i x H2 hi ⟨acc, s2, hacc, hal, hta⟩
    obtain ⟨pa, n, m, rfl, hpa, ⟨n1, n2, m1, m2⟩, et⟩ : ∃ (pa : Addr) (n m : Int), x = .ref pa ∧ SqT K H pa [.int n, .int m] ∧ (-1000000000 ≤ n ∧ n ≤ 1000000000 ∧ -1000000000 ≤ m ∧ m ≤ 1000000000) ∧
        (([.tuple [.int (p.ax * F), .int (p.bx * F)], .tuple [.int (p.ay * F), .int (p.cy * F)]] : List PyData).take (i + 1)) = (([.tuple [.int (p.ax * F), .int (p.bx * F)], .tuple [.int (p.ay * F), .int (p.cy * F)]] : List PyData).take i) ++ [.tuple [.int (n * F), .int (m * F)]] := by
      match i, hi with
      | 0, hi => cases hi; exact ⟨a1, _, _, rfl, hs1, ⟨b1, b2, b3, b4⟩, rfl⟩
      | 1, hi => cases hi; exact ⟨a2, _, _, rfl, hs2, ⟨b5, b6, b7, b8⟩, rfl⟩
      | i + 2, hi => cases hi
    have i2 : i < 2 := (List.getElem?_eq_some_iff.mp hi).1
    have hpa2 := (Tups.same s2).sq hpa
    refine ⟨rfl, ?_⟩
    refine ⟨_, rfl, pa, _, _, _, rfl, rfl, hpa2, atI_nat (j := 0) rfl, _, rfl, _, _, rfl, rfl, mul_ok n1 n2 f1 f2, _, rfl, pa, _, _, _, rfl, rfl, hpa2, atI_nat (j := 1) rfl, _, rfl, _, _, rfl, rfl, mul_ok m1 m2 f1 f2, ?_⟩
    refine ⟨len2, fun l hl => ?_⟩
    have s3 := same_new hl (.tup [.int (n * F), .int (m * F)])
    have hacc3 := s3 _ _ hacc
    refine ⟨acc, hacc3, small1000 (by omega), acc ++ [.ref l], fun c o e => ?_, upd_same, by rw [List.length_append, hal]; rfl, ?_⟩
    · rw [upd_ne (ne_of_none e hD)]
      exact s3 _ _ (s2 _ _ e)
    · rw [et]
      have t4 : Tups (upd H2 l (.tup [.int (n * F), .int (m * F)])) (upd (upd H2 l (.tup [.int (n * F), .int (m * F)])) D' (.lst (acc ++ [.ref l]))) := tups_upd hacc3 nt_lst
      exact TpAll.snoc (TpAll.mono ((Tups.same s3).trans t4) _ _ hta) (Tp.mono t4 _ _ (tp_tup sqt_new (tpa_cons tp_int (tpa_cons tp_int tpa_nil))))
  · rintro H2 ⟨acc, s2, hacc, hal, hta⟩
    refine ⟨D', acc, rfl, .inl ⟨SqL.of hacc, fun l hl => ?_⟩⟩
    have s3 := same_new hl (.tup acc)
    exact q _ _ (s2.trans s3) (tp_tup sqt_new (TpAll.mono (Tups.same s3) _ _ hta))
theorem ok_most {f : Addr} {fd : FuncData} (F : Fun K "_law_most" "_law_most" sMost f fd) (B0 : Bl mg) : FnOk P w K mg base CX0 1 f fd ["_law_ran_here", "_law_free", "_law_many"] (spMost K) := by
  refine F.ok sc_most (fun vs H Q E h => ?_) (fun cdv A outer s H vs Q E hr h => ?_)
  · obtain ⟨l, e, x, fr, many, rfl, _⟩ := h
    rfl
  obtain ⟨l, e, x, fr, many, rfl, hl, Good, g1, g2, q0⟩ := h
  have q1 : e ≠ "" ∨ fr = 0 → ∀ H', Same H H' → Q (.int (if many > 4 then 3 else 9)) H' := fun c H' s => q0 _ H' s (g1 c)
  refine ⟨_, (pss_cons (ps_if (PW.pt (pw_or (pt_cmpR op_ne (pe_ix ix_list (pv 0) pe_int (fun _ _ => rfl)) pe_str (nomark _)) (pw_or1 (pt_cmpR op_eq (pv 1) pe_int (nomark _))))) (pss_one (ps_ret (pe_ix ix_list (pe_lst (pa_cons pe_int (pa_cons pe_int pa_nil))) (pe_callTy call_int1 (by rfl) B0.int (by decide +kernel) (pa_cons (pe_cmpR op_gt (pv 2) pe_int (nomark _)) pa_nil)) (fun _ _ => rfl)))) pss_nil)
    (pss_cons (ps_set (i := 3) sc_most.nd rfl (.inl rfl) (pe_callTy call_list_of (by rfl) B0.list (by decide +kernel) (pa_cons (pe_ix ix_tup (pe_ix ix_list (pv 0) pe_int (fun _ _ => rfl)) pe_int (fun _ _ => rfl)) pa_nil)))
    (pss_cons (ps_set (i := 4) sc_most.nd rfl (.inl rfl) pe_int)
    (pss_cons (ps_for PassesOwn.never rfl (pi_zipA (by rfl) B0.zip (pa_cons (pe_slice sl_list (pv 3) po_none (po_some (pe_un un_neg pe_int))) (pa_cons (pe_slice sl_list (pv 3) (po_some pe_int) po_none) pa_nil))) (pg_tup rfl (pgs_cons (pg_name (i := 5) sc_most.nd rfl (.inl rfl)) (pgs_cons (pg_name (i := 6) sc_most.nd rfl (.inl rfl)) pgs_nil))) (pss_one (ps_for PassesOwn.never rfl (pi_zipA (by rfl) B0.zip (pa_cons (pv 5) (pa_cons (pv 6) pa_nil))) (pg_tup rfl (pgs_cons (pg_name (i := 7) sc_most.nd rfl (.inl rfl)) (pgs_cons (pg_name (i := 8) sc_most.nd rfl (.inl rfl)) pgs_nil))) (pss_one (ps_set (i := 4) sc_most.nd rfl (.inl rfl) (pe_callB (call_max3I rfl) (by rfl) B0.max (by decide +kernel) (pa_cons (pv 4) (pa_cons (pe_callB call_abs (by rfl) B0.abs (by decide +kernel) (pa_cons (pe_op op_sub (pe_ix ix_tup (pv 8) pe_int (fun _ _ => rfl)) (pe_ix ix_tup (pv 7) pe_int (fun _ _ => rfl))) pa_nil)) (pa_cons (pe_callB call_abs (by rfl) B0.abs (by decide +kernel) (pa_cons (pe_op op_sub (pe_ix ix_tup (pv 8) pe_int (fun _ _ => rfl)) (pe_ix ix_tup (pv 7) pe_int (fun _ _ => rfl))) pa_nil)) pa_nil)))))))))
    (pss_one (ps_ret (pe_callB (call_max2 rfl) (by rfl) B0.max (by decide +kernel) (pa_cons pe_int (pa_cons (pe_callB (call_min2 rfl) (by rfl) B0.min (by decide +kernel) (pa_cons pe_int (pa_cons (pe_op op_fdivW (pe_op op_pow pe_int pe_int) (pv 4)) pa_nil))) pa_nil))))))))), ?_⟩
  refine ⟨_, rfl, l, _, _, _, rfl, rfl, SqL.of hl, atI_nat (j := 0) rfl, rfl, _, rfl, ifsn (fun ne => ?_) (fun eq => ?_)⟩
  · refine ⟨len2, fun l2 hl2 => ⟨_, rfl, _, _, rfl, rfl, .inr ⟨_, rfl, most_few hl2 (q1 (.inl ne))⟩⟩⟩
  refine ⟨_, rfl, rfl, _, rfl, ifi_of (fun z => ?_) (fun nz => ?_)⟩
  · refine ⟨len2, fun l2 hl2 => ⟨_, rfl, _, _, rfl, rfl, .inr ⟨_, rfl, most_few hl2 (q1 (.inr z))⟩⟩⟩
  obtain ⟨z, h, d, rfl, ⟨st, co, xs, ys, es, hz, hst, hxs, hco, hys, hes, lx, ly⟩, cne, cb, q⟩ := g2 eq nz
  have hyl : ys.length = h.corners.length := by
    have := hys.len
    rw [List.length_map] at this
    exact this
  have yne : ys ≠ [] := fun e => cne (List.length_eq_zero_iff.mp (by rw [← hyl, e]; rfl))
  have y1 : 1 ≤ ys.length := by
    cases ys with
    | nil => exact absurd rfl yne
    | cons y r => exact Nat.succ_le_succ (Nat.zero_le _)
  refine ⟨_, rfl, l, _, _, _, rfl, rfl, SqL.of hl, atI_nat (j := 1) rfl, z, _, _, _, rfl, rfl, hz, atI_nat (j := 1) rfl, co, ys, rfl, .inl (SqL.of hco), fun c hc => ?_⟩
  have s1 := same_new hc (.lst ys)
  refine ⟨_, rfl, 1, rfl, -1, rfl, c, ys, rfl, SqL.of upd_same, fun p1 hp1 => ?_⟩
  have s2 := same_new hp1 (.lst (cutV ys none (some (-1))))
  refine ⟨_, rfl, 1, rfl, c, ys, rfl, SqL.of (s2 _ _ upd_same), fun p2 hp2 => ?_⟩
  have s3 := same_new hp2 (.lst (cutV ys (some 1) none))
  generalize eH : upd (upd (upd H c (.lst ys)) p1 (.lst (cutV ys none (some (-1))))) p2 (.lst (cutV ys (some 1) none)) = H3 at s3
  have l1 : H3 p1 = some (.lst (ys.take (ys.length - 1))) := by rw [← cut_init yne]; exact s3 _ _ upd_same
  have l2 : H3 p2 = some (.lst (ys.drop 1)) := by
    have := cut_from (k := 1) y1
    rw [← this, ← eH]
    exact upd_same
  have s13 : Same H H3 := s1.trans (s2.trans s3)
  refine ⟨p1, p2, _, _, rfl, .inl ⟨SqL.of l1, SqL.of l2, for_zipL (K := K) (xs := ys.take (ys.length - 1)) (ys := ys.drop 1) (by rw [List.length_take, List.length_drop]; omega)
    (fun i σ H' => ∃ (o1 o2 o3 o4 : Option V) (f : Int), σ = [some (.ref l), some (.int fr), some (.int many), some (.ref c), some (.int f), o1, o2, o3, o4] ∧ Same H3 H' ∧ 1 ≤ f ∧ f ≤ 2000000000 ∧ CovI h.corners i f)
    ⟨none, none, none, none, 1, rfl, Same.refl _, by decide, by decide, fun i _ _ z => absurd z (Nat.not_lt_zero _)⟩ (fun i σ H' ⟨_, _, _, _, _, _, s4, _⟩ => ⟨SqL.of (s4 _ _ l1), SqL.of (s4 _ _ l2)⟩) ?_ ?_⟩⟩
  · rintro i x y T σ H4 hx hy ⟨o1, o2, o3, o4, f, rfl, s4, f1, f2, cov⟩ hT
    have iL : i < ys.length - 1 := by
      have := (List.getElem?_eq_some_iff.mp hx).1
      rw [List.length_take] at this
      omega
    rw [List.getElem?_take_of_lt iL] at hx
    rw [List.getElem?_drop, Nat.add_comm] at hy
    obtain ⟨a, ha, tx⟩ := corner_at hys hx
    obtain ⟨b, hb, ty⟩ := corner_at hys hy
    have s5 := same_new hT (.tup [x, y])
    have t5 := Tups.same (s13.trans (s4.trans s5))
    obtain ⟨pa, a1, a2, rfl, ka, ka1, ka2⟩ := pt_at (Tp.mono t5 _ _ tx)
    obtain ⟨pb, b1, b2, rfl, kb, kb1, kb2⟩ := pt_at (Tp.mono t5 _ _ ty)
    have ca := cb a (List.mem_of_getElem? ha)
    have cb := cb b (List.mem_of_getElem? hb)
    refine ⟨T, _, rfl, SqT.of upd_same, rfl, _, _, rfl, _, _, rfl, rfl, ?_⟩
    refine ⟨_, rfl, _, rfl, pa, pb, _, _, rfl, .inr ⟨ka, kb, for_zipT (K := K) (xs := [.ref a1, .ref a2]) (ys := [.ref b1, .ref b2]) rfl
      (fun j σ H' => ∃ (o3 o4 : Option V) (g : Int), σ = [some (.ref l), some (.int fr), some (.int many), some (.ref c), some (.int g), some (.ref pa), some (.ref pb), o3, o4] ∧ Same (upd H4 T (.tup [.ref pa, .ref pb])) H' ∧ f ≤ g ∧ g ≤ 2000000000 ∧
        (1 ≤ j → ((b.ax - a.ax).natAbs : Int) ≤ g ∧ ((b.bx - a.bx).natAbs : Int) ≤ g) ∧ (2 ≤ j → ((b.ay - a.ay).natAbs : Int) ≤ g ∧ ((b.cy - a.cy).natAbs : Int) ≤ g))
      ⟨_, _, f, rfl, Same.refl _, Int.le_refl _, f2, fun z => absurd z (by decide), fun z => absurd z (by decide)⟩ (fun j σ H' ⟨_, _, _, _, s6, _⟩ => ⟨(Tups.same s6).sq ka, (Tups.same s6).sq kb⟩) ?_ ?_⟩⟩
    · rintro j x y T2 σ H5 hx hy ⟨o3, o4, g, rfl, s6, g1, g2, v1, v2⟩ hT2
      have s7 := same_new hT2 (.tup [x, y])
      have t7 := Tups.same (s6.trans s7)
      obtain ⟨qa, qb, n1, n2, m1, m2, rfl, rfl, ra, rb, bnd, vv⟩ : ∃ (qa qb : Addr) (n1 n2 m1 m2 : Int), x = .ref qa ∧ y = .ref qb ∧ SqT K (upd H4 T (.tup [.ref pa, .ref pb])) qa [.int n1, .int n2] ∧ SqT K (upd H4 T (.tup [.ref pa, .ref pb])) qb [.int m1, .int m2] ∧
          ((-1000000000 ≤ n1 ∧ n1 ≤ 1000000000) ∧ (-1000000000 ≤ n2 ∧ n2 ≤ 1000000000) ∧ (-1000000000 ≤ m1 ∧ m1 ≤ 1000000000) ∧ (-1000000000 ≤ m2 ∧ m2 ≤ 1000000000)) ∧
          (∀ g', g ≤ g' → ((m1 - n1).natAbs : Int) ≤ g' → ((m2 - n2).natAbs : Int) ≤ g' → (1 ≤ j + 1 → ((b.ax - a.ax).natAbs : Int) ≤ g' ∧ ((b.bx - a.bx).natAbs : Int) ≤ g') ∧ (2 ≤ j + 1 → ((b.ay - a.ay).natAbs : Int) ≤ g' ∧ ((b.cy - a.cy).natAbs : Int) ≤ g')) := by
        match j, hx, hy with
        | 0, hx, hy => cases hx; cases hy; exact ⟨a1, b1, _, _, _, _, rfl, rfl, ka1, kb1, ⟨ca.1, ca.2.1, cb.1, cb.2.1⟩, fun g' _ z1 z2 => ⟨fun _ => ⟨z1, z2⟩, fun z => absurd z (by decide)⟩⟩
        | 1, hx, hy => cases hx; cases hy; exact ⟨a2, b2, _, _, _, _, rfl, rfl, ka2, kb2, ⟨ca.2.2.1, ca.2.2.2, cb.2.2.1, cb.2.2.2⟩, fun g' z z1 z2 => ⟨fun _ => by have := v1 (by decide); omega, fun _ => ⟨z1, z2⟩⟩⟩
        | j + 2, hx, hy => cases hx
      refine ⟨T2, _, rfl, SqT.of upd_same, rfl, _, _, rfl, _, _, rfl, rfl, ?_⟩
      refine ⟨_, rfl, _, rfl, qb, _, _, _, rfl, rfl, t7.sq rb, atI_nat (j := 0) rfl, _, rfl, qa, _, _, _, rfl, rfl, t7.sq ra, atI_nat (j := 0) rfl, _, _, rfl, rfl, _, rfl, ?_⟩
      refine ⟨_, rfl, qb, _, _, _, rfl, rfl, t7.sq rb, atI_nat (j := 1) rfl, _, rfl, qa, _, _, _, rfl, rfl, t7.sq ra, atI_nat (j := 1) rfl, _, _, rfl, rfl, _, rfl, _, _, _, rfl, ?_⟩
      have e1 : ∀ i : Int, (if i < 0 then -i else i) = (i.natAbs : Int) := fun i => by split <;> omega
      obtain ⟨w1, w2⟩ := vv (max (max g (if m1 - n1 < 0 then -(m1 - n1) else m1 - n1)) (if m2 - n2 < 0 then -(m2 - n2) else m2 - n2)) (by omega) (by rw [e1, e1]; omega) (by rw [e1, e1]; omega)
      exact ⟨_, _, _, rfl, s6.trans s7, by omega, by rw [e1, e1]; omega, w1, w2⟩
    · rintro σ H5 ⟨o3, o4, g, rfl, s6, g1, g2, v1, v2⟩
      refine ⟨_, _, _, _, g, rfl, s4.trans (s5.trans s6), by omega, g2, fun k a' b' hk ha' hb' => ?_⟩
      by_cases ck : k < i
      · have := cov k a' b' ck ha' hb'
        omega
      · have ek : k = i := by omega
        subst ek
        rw [ha] at ha'
        rw [hb] at hb'
        cases ha'
        cases hb'
        have w1 := v1 (show 1 ≤ 2 by omega)
        have w2 := v2 (show 2 ≤ 2 by omega)
        exact ⟨w1.1, w1.2, w2.1, w2.2⟩
  · rintro σ H4 ⟨o1, o2, o3, o4, f, rfl, s4, f1, f2, cov⟩
    have e6 : (10 : Int) ^ (6 : Int).toNat = 1000000 := by decide
    have dv : CDivW ((10 : Int) ^ (6 : Int).toNat) f := wide_div (b := 40) (by omega) (by have : (2 : Nat) ^ 40 = 1099511627776 := by decide
                                                                                          omega) (by decide) (by decide)
    refine ⟨_, _, rfl, rfl, ?_, _, rfl, _, _, rfl, rfl, dv, _, _, rfl, _, _, rfl, ?_⟩
    · exact ⟨by decide, by decide, by decide⟩
    rw [e6]
    have n0 : 0 ≤ 1000000 / f := Int.ediv_nonneg (by decide) (by omega)
    generalize eq0 : 1000000 / f = u0 at n0
    refine q0 _ _ (s13.trans s4) (q _ f f1 (fun i a b ha hb => cov i a b ?_ ha hb) ?_ ?_ ?_)
    · have := (List.getElem?_eq_some_iff.mp hb).1
      rw [List.length_take]
      omega
    · split <;> (split <;> omega)
    · split <;> (split <;> omega)
    · rw [eq0]
      split <;> (split <;> omega)
end
end TH
set_option Elab.async false
set_option linter.all false

set_option maxRecDepth 100000
set_option maxHeartbeats 4000000
namespace TH
open PySem PySem.Spec PyProof.Rows L2
/-! ### the program's data bear == -/
def Lays (n : Nat) (d : PyData) : Prop := PyData.canLay0 d = true ∧ PyData.depth d ≤ n
def LaysAll (n : Nat) (ds : List PyData) : Prop := PyData.canLayAll0 ds = true ∧ PyData.depthAll ds ≤ n
theorem Lays.mono {n m : Nat} {d : PyData} (h : Lays n d) (l : n ≤ m) : Lays m d := ⟨h.1, Nat.le_trans h.2 l⟩
theorem LaysAll.mono {n m : Nat} {d : List PyData} (h : LaysAll n d) (l : n ≤ m) : LaysAll m d := ⟨h.1, Nat.le_trans h.2 l⟩
theorem lays_int (n : Nat) (i : Int) : Lays n (.int i) := ⟨by rw [PyData.canLay0], by rw [PyData.depth]; exact Nat.zero_le _⟩
theorem lays_bool (n : Nat) (i : Bool) : Lays n (.bool i) := ⟨by rw [PyData.canLay0], by rw [PyData.depth]; exact Nat.zero_le _⟩
theorem lays_str {n : Nat} {x : Str} (h : PyData.canLay0 (.str x) = true) : Lays n (.str x) := ⟨h, by rw [PyData.depth]; exact Nat.zero_le _⟩
theorem lays_nil (n : Nat) : LaysAll n [] := ⟨by rw [PyData.canLayAll0], by rw [PyData.depthAll]; exact Nat.zero_le _⟩
theorem lays_cons {n : Nat} {d : PyData} {ds : List PyData} (h : Lays n d) (t : LaysAll n ds) : LaysAll n (d :: ds) :=
  ⟨by rw [PyData.canLayAll0, h.1, t.1]; rfl, by rw [PyData.depthAll]; exact Nat.max_le.mpr ⟨h.2, t.2⟩⟩
theorem lays_tup {n : Nat} {ds : List PyData} (t : LaysAll n ds) : Lays (n + 1) (.tuple ds) := ⟨by rw [PyData.canLay0]; exact t.1, by rw [PyData.depth]; exact Nat.succ_le_succ t.2⟩
theorem lays_lst {n : Nat} {ds : List PyData} (t : LaysAll n ds) : Lays (n + 1) (.list ds) := ⟨by rw [PyData.canLay0]; exact t.1, by rw [PyData.depth]; exact Nat.succ_le_succ t.2⟩
theorem Lays.shaped {n : Nat} {d : PyData} (h : Lays n d) (l : n ≤ 64) : SeqAt.shaped d = true := by
  unfold SeqAt.shaped
  rw [h.1, decide_eq_true (Nat.le_trans h.2 l)]
  rfl
theorem lays_name (n j : Nat) : Lays n (.str (wname j)) := by
  refine lays_str ?_
  by_cases h : j < 6
  · have key : ∀ a : Fin 6, PyData.canLay0 (.str (wname a.val)) = true := by decide +kernel
    exact key ⟨j, h⟩
  · have e : wname j = "" := by
      unfold wname
      rw [List.getD_eq_getElem?_getD, List.getElem?_eq_none (by show 6 ≤ j; omega)]
      rfl
    rw [e]
    decide +kernel
theorem lays_src {takes : Nat} (n : Nat) (t4 : takes ≤ 4) {k : Nat} (h : k < takes) : Lays n (.str (Src.n k).name) := by
  refine lays_str ?_
  have key : ∀ a : Fin 4, PyData.canLay0 (.str (Src.n a.val).name) = true := by decide +kernel
  exact key ⟨k, by omega⟩
theorem lays_am {takes : Nat} {ins : Bool} (t4 : takes ≤ 4) {a : Am} (h : AmOk takes ins a) : Lays 1 (encA a) := by
  cases a with
  | lit i => exact lays_int _ _
  | src t s m =>
    cases s with
    | count => exact lays_tup (lays_cons (lays_int _ _) (lays_cons (lays_str (by decide +kernel)) (lays_cons (lays_int _ _) (lays_nil _))))
    | n k => exact lays_tup (lays_cons (lays_int _ _) (lays_cons (lays_src _ t4 h.1) (lays_cons (lays_int _ _) (lays_nil _))))
theorem lays_ams {takes : Nat} {ins : Bool} (t4 : takes ≤ 4) : ∀ {as : List Am}, (∀ a ∈ as, AmOk takes ins a) → LaysAll 1 (as.map encA)
  | [], _ => lays_nil _
  | a :: r, h => lays_cons (lays_am t4 (h a (List.mem_cons_self ..))) (lays_ams t4 fun b hb => h b (List.mem_cons_of_mem _ hb))
theorem lays_b {ar : List Nat} {takes : Nat} (t4 : takes ≤ 4) : ∀ (b : B) (d : Nat) (i : Bool), BOk ar takes b d i → LaysAll (3 + 2 * d) (encB b)
  | .nil, _, _, _ => lays_nil _
  | .go a r, d, i, h => lays_cons ((lays_tup (lays_cons (lays_str (by decide +kernel)) (lays_cons (lays_am t4 h.1) (lays_nil _)))).mono (by omega)) (lays_b t4 r d i h.2)
  | .turn a r, d, i, h => lays_cons ((lays_tup (lays_cons (lays_str (by decide +kernel)) (lays_cons (lays_am t4 h.1) (lays_nil _)))).mono (by omega)) (lays_b t4 r d i h.2)
  | .ink a r, d, i, h => lays_cons ((lays_tup (lays_cons (lays_str (by decide +kernel)) (lays_cons (lays_am t4 h.1) (lays_nil _)))).mono (by omega)) (lays_b t4 r d i h.2)
  | .pen a r, d, i, h => lays_cons ((lays_tup (n := 1) (lays_cons (lays_str (by cases a <;> decide +kernel)) (lays_nil _))).mono (by omega)) (lays_b t4 r d i h)
  | .mark a r, d, i, h => lays_cons ((lays_tup (n := 1) (lays_cons (lays_str (by decide +kernel)) (lays_cons (lays_int _ _) (lays_nil _)))).mono (by omega)) (lays_b t4 r d i h.2)
  | .back a r, d, i, h => lays_cons ((lays_tup (n := 1) (lays_cons (lays_str (by decide +kernel)) (lays_cons (lays_int _ _) (lays_nil _)))).mono (by omega)) (lays_b t4 r d i h.2)
  | .again a b r, d, i, h => lays_cons ((lays_tup (n := 2 + 2 * d) (lays_cons (lays_str (by decide +kernel)) (lays_cons ((lays_am t4 h.1.1).mono (by omega)) (lays_cons ((lays_tup (lays_b t4 b (d - 1) true h.1.2.2.1)).mono (by have := h.1.2.1; omega)) (lays_nil _))))).mono (by omega)) (lays_b t4 r d i h.2)
  | .ite a b e r, d, i, h => lays_cons ((lays_tup (n := 2 + 2 * d) (lays_cons (lays_str (by decide +kernel)) (lays_cons ((lays_am t4 h.1.1).mono (by omega)) (lays_cons ((lays_tup (lays_b t4 b (d - 1) i h.1.2.2.1)).mono (by have := h.1.2.1; omega))
      (lays_cons ((lays_tup (lays_b t4 e (d - 1) i h.1.2.2.2.1)).mono (by have := h.1.2.1; omega)) (lays_nil _)))))).mono (by omega)) (lays_b t4 r d i h.2)
  | .call j as r, d, i, h => lays_cons ((lays_tup (n := 2) (lays_cons (lays_str (by decide +kernel)) (lays_cons (lays_name _ _) (lays_cons (lays_tup (lays_ams t4 h.1.2.2)) (lays_nil _))))).mono (by omega)) (lays_b t4 r d i h.2)
theorem lays_ws : ∀ {ws : Ws} (i : Nat), (∀ w ∈ ws, w.1 ≤ 4 ∧ ∃ ar, BOk ar w.1 w.2 3 false) → LaysAll 11 (encWs i ws)
  | [], _, _ => lays_nil _
  | w :: r, i, h => by
    obtain ⟨t4, ar, hb⟩ := h w (List.mem_cons_self ..)
    exact lays_cons (lays_tup (lays_cons (lays_name _ _) (lays_cons (lays_int _ _) (lays_cons (lays_tup (lays_b t4 _ _ _ hb)) (lays_nil _))))) (lays_ws (i + 1) fun u hu => h u (List.mem_cons_of_mem _ hu))
theorem WsOk.mem {ws : Ws} (h : WsOk ws) {w : Nat × B} (hw : w ∈ ws) : ∃ i, ws[i]? = some w ∧ w.1 ≤ 4 ∧ BOk (arOf ws i) w.1 w.2 3 false ∧ blen w.2 ≤ 50 := by
  obtain ⟨i, hi⟩ := List.getElem?_of_mem hw
  exact ⟨i, hi, h i w hi⟩
theorem Prog.Ok.lays {p : Prog} (h : p.Ok) : SeqAt.shaped (encProg p) = true := by
  have a : LaysAll 11 (encWs 0 p.ws) := lays_ws 0 fun w hw => by
    obtain ⟨i, _, h1, h2, _⟩ := h.ws.mem hw
    exact ⟨h1, _, h2⟩
  have b : LaysAll 11 (encB p.body) := lays_b (by decide) _ _ _ h.body
  exact (lays_tup (lays_cons (lays_tup a) (lays_cons (lays_tup b) (lays_nil _)))).shaped (by decide)
theorem eqv_self {d : PyData} (h : SeqAt.shaped d = true) : PyData.eqv d d = true := SeqAt.eqv_refl d (SeqAt.canLay_of_shaped h)
/-! ### what larger and run ask -/
theorem fit_up : ∀ (b : B) (d e : Nat), Fit b d → d ≤ e → Fit b e
  | .nil, _, _, _, _ => trivial
  | .go _ r, d, e, h, l => fit_up r d e h l
  | .turn _ r, d, e, h, l => fit_up r d e h l
  | .ink _ r, d, e, h, l => fit_up r d e h l
  | .pen _ r, d, e, h, l => fit_up r d e h l
  | .mark _ r, d, e, h, l => fit_up r d e h l
  | .back _ r, d, e, h, l => fit_up r d e h l
  | .again _ b r, d, e, h, l => ⟨⟨by have := h.1.1; omega, fit_up b _ _ h.1.2.1 (by omega), h.1.2.2⟩, fit_up r d e h.2 l⟩
  | .ite _ b c r, d, e, h, l => ⟨⟨by have := h.1.1; omega, fit_up b _ _ h.1.2.1 (by omega), fit_up c _ _ h.1.2.2.1 (by omega), h.1.2.2.2.1, h.1.2.2.2.2⟩, fit_up r d e h.2 l⟩
  | .call _ _ r, d, e, h, l => fit_up r d e h l
theorem Prog.Ok.fits {p : Prog} (h : p.Ok) : p.Fits := by
  refine ⟨h.few, fun w hw => ?_, h.body.fit, h.len⟩
  obtain ⟨i, _, h1, h2, h3⟩ := h.ws.mem hw
  exact ⟨fit_up _ _ _ h2.fit (by decide), h3⟩
theorem mulb {i F : Int} (h1 : -9 ≤ i) (h2 : i ≤ 9) (f1 : 1 ≤ F) (f2 : F ≤ 1000) : -1000000 ≤ i * F ∧ i * F ≤ 1000000 := by
  have a := Int.mul_le_mul_of_nonneg_right h2 (show 0 ≤ F by omega)
  have b := Int.mul_le_mul_of_nonneg_right h1 (show 0 ≤ F by omega)
  omega
theorem amle {takes : Nat} {ins : Bool} {F : Int} (f1 : 1 ≤ F) (f2 : F ≤ 1000) {a : Am} (h : AmOk takes ins a) : AmLe 1000000 (a.times F) := by
  cases a with
  | lit i => exact mulb h.1 h.2 f1 f2
  | src t s m =>
    obtain ⟨t1, t2, m1, m2⟩ : -3 ≤ t ∧ t ≤ 3 ∧ -3 ≤ m ∧ m ≤ 3 := by
      cases s with
      | count => exact h.2
      | n k => exact h.2
    exact ⟨mulb (by omega) (by omega) f1 f2, mulb (by omega) (by omega) f1 f2⟩
theorem gole {ar : List Nat} {takes : Nat} {F : Int} (f1 : 1 ≤ F) (f2 : F ≤ 1000) : ∀ (b : B) (d : Nat) (i : Bool), BOk ar takes b d i → GoLe 1000000 (b.larger F)
  | .nil, _, _, _ => trivial
  | .go a r, d, i, h => ⟨amle f1 f2 h.1, gole f1 f2 r d i h.2⟩
  | .turn a r, d, i, h => gole f1 f2 r d i h.2
  | .ink a r, d, i, h => gole f1 f2 r d i h.2
  | .pen a r, d, i, h => gole f1 f2 r d i h
  | .mark a r, d, i, h => gole f1 f2 r d i h.2
  | .back a r, d, i, h => gole f1 f2 r d i h.2
  | .again a b r, d, i, h => ⟨gole f1 f2 b _ _ h.1.2.2.1, gole f1 f2 r d i h.2⟩
  | .ite a b e r, d, i, h => ⟨⟨gole f1 f2 b _ _ h.1.2.2.1, gole f1 f2 e _ _ h.1.2.2.2.1⟩, gole f1 f2 r d i h.2⟩
  | .call j as r, d, i, h => gole f1 f2 r d i h.2
theorem Prog.Ok.goes {p : Prog} (h : p.Ok) {F : Int} (f1 : 1 ≤ F) (f2 : F ≤ 1000) : (p.larger F).Goes 1000000 := by
  refine ⟨fun w hw => ?_, gole f1 f2 _ _ _ h.body⟩
  obtain ⟨u, hu, rfl⟩ := List.mem_map.mp (show w ∈ p.ws.map _ from hw)
  obtain ⟨i, _, h1, h2, h3⟩ := h.ws.mem hu
  exact gole f1 f2 _ _ _ h2
theorem intOk_small {i : Int} (h : -1000000 ≤ i) (h2 : i ≤ 1000000) : IntOk i := by
  refine ⟨?_, ?_⟩ <;> omega
theorem amr {takes : Nat} (t4 : takes ≤ 4) {ins : Bool} {F : Int} (f1 : 1 ≤ F) (f2 : F ≤ 1000) {a : Am} (h : AmOk takes ins a) : AmR takes (a.times F) := by
  cases a with
  | lit i => trivial
  | src t s m =>
    cases s with
    | count =>
      have := mulb (show -9 ≤ t by have := h.2.1; omega) (show t ≤ 9 by have := h.2.2.1; omega) f1 f2
      exact ⟨intOk_small this.1 this.2, trivial⟩
    | n k =>
      have := mulb (show -9 ≤ t by have := h.2.1; omega) (show t ≤ 9 by have := h.2.2.1; omega) f1 f2
      exact ⟨intOk_small this.1 this.2, h.1, by have := h.1; omega⟩
theorem brun {ar ar' : List Nat} {takes : Nat} (t4 : takes ≤ 4) {F : Int} (f1 : 1 ≤ F) (f2 : F ≤ 1000) (ha : ∀ j, j < ar.length → j < ar'.length ∧ ar'.getD j 0 = ar.getD j 0 ∧ ar.getD j 0 ≤ 4) : ∀ (b : B) (d : Nat) (i : Bool), BOk ar takes b d i → BRun ar' takes (b.larger F)
  | .nil, _, _, _ => trivial
  | .go a r, d, i, h => ⟨amr t4 f1 f2 h.1, brun t4 f1 f2 ha r d i h.2⟩
  | .turn a r, d, i, h => ⟨by have := amr t4 (F := 1) (by decide) (by decide) h.1; rwa [am_times_one] at this, brun t4 f1 f2 ha r d i h.2⟩
  | .ink a r, d, i, h => ⟨by have := amr t4 (F := 1) (by decide) (by decide) h.1; rwa [am_times_one] at this, brun t4 f1 f2 ha r d i h.2⟩
  | .pen a r, d, i, h => brun t4 f1 f2 ha r d i h
  | .mark a r, d, i, h => ⟨h.1, brun t4 f1 f2 ha r d i h.2⟩
  | .back a r, d, i, h => ⟨h.1, brun t4 f1 f2 ha r d i h.2⟩
  | .again a b r, d, i, h => ⟨⟨by have := amr t4 (F := 1) (by decide) (by decide) h.1.1; rwa [am_times_one] at this, brun t4 f1 f2 ha b _ _ h.1.2.2.1⟩, brun t4 f1 f2 ha r d i h.2⟩
  | .ite a b e r, d, i, h => ⟨⟨by have := amr t4 (F := 1) (by decide) (by decide) h.1.1; rwa [am_times_one] at this, brun t4 f1 f2 ha b _ _ h.1.2.2.1, brun t4 f1 f2 ha e _ _ h.1.2.2.2.1⟩, brun t4 f1 f2 ha r d i h.2⟩
  | .call j as r, d, i, h => ⟨⟨(ha j h.1.1).1, by rw [h.1.2.1, (ha j h.1.1).2.1], by rw [h.1.2.1]; exact (ha j h.1.1).2.2, fun a hm => by have := amr t4 (F := 1) (by decide) (by decide) (h.1.2.2 a hm); rwa [am_times_one] at this⟩, brun t4 f1 f2 ha r d i h.2⟩
theorem ar_pre {ws : Ws} (h : WsOk ws) (l : Nat) : ∀ j, j < (arOf ws l).length → j < (ws.map (·.1)).length ∧ (ws.map (·.1)).getD j 0 = (arOf ws l).getD j 0 ∧ (arOf ws l).getD j 0 ≤ 4 := by
  intro j hj
  unfold arOf at hj ⊢
  rw [List.length_map, List.length_take] at hj
  have jw : j < ws.length := by omega
  have jl : j < l := by omega
  have e : ws[j]? = some ws[j] := List.getElem?_eq_getElem jw
  have e1 : (ws.map (·.1)).getD j 0 = (ws[j]).1 := by
    rw [List.getD_eq_getElem?_getD, List.getElem?_map, e]
    rfl
  have e2 : ((ws.take l).map (·.1)).getD j 0 = (ws[j]).1 := by
    rw [List.getD_eq_getElem?_getD, List.getElem?_map, List.getElem?_take_of_lt jl, e]
    rfl
  refine ⟨by rw [List.length_map]; exact jw, by rw [e1, e2], by rw [e2]; exact (h j _ e).1⟩
theorem Prog.Ok.runs {p : Prog} (h : p.Ok) {F : Int} (f1 : 1 ≤ F) (f2 : F ≤ 1000) : (p.larger F).Runs := by
  have ew : (p.larger F).ws.map (·.1) = p.ws.map (·.1) := by
    show (p.ws.map fun w => (w.1, w.2.larger F)).map (·.1) = _
    rw [List.map_map]
    rfl
  have eb : (p.larger F).ws.map (·.2) = p.ws.map fun w => w.2.larger F := by
    show (p.ws.map fun w => (w.1, w.2.larger F)).map (·.2) = _
    rw [List.map_map]
    rfl
  have ef : arOf p.ws p.ws.length = p.ws.map (·.1) := by unfold arOf; rw [List.take_length]
  refine ⟨?_, ?_⟩
  · rw [ew, eb]
    refine ⟨by rw [List.length_map, List.length_map], by rw [List.length_map]; exact h.few, fun j b e => ?_⟩
    rw [List.getElem?_map] at e
    cases c : p.ws[j]? with
    | none => rw [c] at e; cases e
    | some w =>
      rw [c] at e
      cases e
      obtain ⟨w4, wb, _⟩ := h.ws j w c
      have e1 : (p.ws.map (·.1)).getD j 0 = w.1 := by
        rw [List.getD_eq_getElem?_getD, List.getElem?_map, c]
        rfl
      rw [e1]
      exact brun w4 f1 f2 (ar_pre h.ws j) _ _ _ wb
  · rw [ew]
    have := ar_pre h.ws p.ws.length
    rw [ef] at this
    exact brun (by decide) f1 f2 this _ _ _ h.body
theorem Prog.Ok.runs1 {p : Prog} (h : p.Ok) : p.Runs := by
  have := h.runs (F := 1) (by decide) (by decide)
  rwa [p.larger_one] at this
end TH
set_option Elab.async false
set_option linter.all false

set_option maxRecDepth 100000
set_option maxHeartbeats 400000
namespace TH
open PySem PySem.Spec PyProof.Rows L2 RZ
abbrev sLaw : Stmt := top 46
abbrev nLaw : List Str := ["_law_script", "_law_program_here", "_law_most_here", "_law_one", "_law_factor", "_law_two", "_law_due", "_law_last", "_law_strokes", "_law_corners", "_law_end", "_law_turns", "_law_done", "_law_ink", "_law_begin", "_law_place"]
def spLaw (K : PySem.W.Frag) : Sp := fun vs H Q _ => ∃ (a : Addr) (ns : List Int), vs = [.ref a] ∧ SqL K H a (ns.map V.int) ∧ ns.length ≤ 63 ∧ ∀ H', Q (.bl true) H'
abbrev teDue (K : PySem.W.Frag) : TE := tTup (tCons (tVar 13) (tCons (tCall (spScaled K) [] E0 (tCons (tVar 14) (tCons (tVar 4) tNil))) (tCons (tCall (spScaled K) [] E0 (tCons (tVar 7) (tCons (tVar 4) tNil))) tNil)))
def Ends (o : Out) (h : Hd) (d : Bool) : Prop := (o = .ok h ∧ d = true) ∨ (o = .stop h ∧ d = false)
theorem Ends.hd {o : Out} {h : Hd} {d : Bool} (e : Ends o h d) : o.hd = h := by
  rcases e with ⟨e, _⟩ | ⟨e, _⟩ <;> (rw [e]; rfl)
theorem Ends.all {o : Out} {h : Hd} {d : Bool} {Pr : Hd → Prop} (e : Ends o h d) (a : o.all Pr) : Pr h := by
  rcases e with ⟨e, _⟩ | ⟨e, _⟩ <;> (rw [e] at a; exact a)
theorem Ends.sc {o : Out} {h h' : Hd} {d d' : Bool} {F : Int} (e : Ends o h d) (e' : Ends (o.sc F) h' d') : h' = h.sc F ∧ d' = d := by
  rcases e with ⟨e, ed⟩ | ⟨e, ed⟩ <;> rcases e' with ⟨e', ed'⟩ | ⟨e', ed'⟩ <;> rw [e] at e' <;> cases e' <;> rw [ed, ed'] <;> exact ⟨rfl, rfl⟩
theorem told_mk {Pr : Hd → Bool → Prop} {N : Prop} {o : Out} (a : o.all fun _ => True) (h1 : ∀ h d, Ends o h d → Pr h d) (h2 : (∃ h, o = .nomark h) → N) : Told Pr N o := by
  cases o with
  | ok h => exact h1 h true (.inl ⟨rfl, rfl⟩)
  | stop h => exact h1 h false (.inr ⟨rfl, rfl⟩)
  | nomark h => exact h2 ⟨h, rfl⟩
  | great => exact a
  | deep => exact a
theorem all_sc {o : Out} {F : Int} (a : o.all fun _ => True) : (o.sc F).all fun _ => True := by
  cases o <;> exact a
/-- what _law_ran gives -/
def RanAt (K : PySem.W.Frag) (H : Hp) (o : Out) (e : Str) (x : V) : Prop := (∃ (h : Hd) (d : Bool) (z : Addr), Ends o h d ∧ e = "" ∧ x = .ref z ∧ RunTup K H z h d) ∨ ((∃ h, o = .nomark h) ∧ e = "mark")
def spRan2 (K : PySem.W.Frag) : Sp := fun vs H Q _ => ∃ (v : V) (p : Prog) (M : Nat), vs = [v, .int M] ∧ Tp K H (encProg p) v ∧ p.Runs ∧ M ≤ 300 ∧ (p.run M).all (fun _ => True) ∧
  ∀ (H' : Hp) (l : Addr) (e : Str) (x : V), Same H H' → H' l = some (.lst [.str e, x]) → RanAt K H' (p.run M) e x → Q (.ref l) H'
theorem ran2_ran {K : PySem.W.Frag} {vs : List V} {H : Hp} {Q : VK} {E : XK} (h : spRan2 K vs H Q E) : spRan K vs H Q E := by
  obtain ⟨v, p, M, e, hp, hr, hM, ha, q⟩ := h
  exact ⟨v, p, M, e, hp, hr, hM, told_mk ha (fun h d ed H' l z s r e1 => q H' l _ _ s e1 (.inl ⟨h, d, z, ed, rfl, rfl, r⟩)) (fun n H' l s e1 => q H' l _ _ s e1 (.inr ⟨n, rfl⟩))⟩
theorem lays_map {α : Type} {f : α → PyData} {n : Nat} (h : ∀ a, Lays n (f a)) : ∀ l : List α, LaysAll n (l.map f)
  | [] => lays_nil _
  | a :: r => lays_cons (h a) (lays_map h r)
theorem lays_pt (p : Pt) : Lays 2 (encP p) := lays_tup (lays_cons (lays_tup (lays_cons (lays_int _ _) (lays_cons (lays_int _ _) (lays_nil _)))) (lays_cons (lays_tup (lays_cons (lays_int _ _) (lays_cons (lays_int _ _) (lays_nil _)))) (lays_nil _)))
theorem lays_stroke (s : Int × Pt × Pt) : Lays 3 (encS s) := lays_tup (lays_cons (lays_int _ _) (lays_cons (lays_pt _) (lays_cons (lays_pt _) (lays_nil _))))
theorem lays_pts (l : List Pt) : SeqAt.shaped (.list (l.map encP)) = true := (lays_lst (lays_map lays_pt l)).shaped (by decide)
theorem lays_strokes (l : List (Int × Pt × Pt)) : SeqAt.shaped (.list (l.map encS)) = true := (lays_lst (lays_map lays_stroke l)).shaped (by decide)
theorem ifeqv {d : PyData} (h : SeqAt.shaped d = true) {A B : Prop} (b : B) : if (!PyData.eqv d d) = true then A else B := by
  rw [eqv_self h]
  exact b
theorem take_map {α : Type} {l : List α} {f : α → PyData} {i : Nat} {a : α} (e : l[i]? = some a) : (l.map f).take (i + 1) = (l.map f).take i ++ [f a] := by
  rw [List.take_succ, List.getElem?_map, e]
  rfl
theorem stroke_at {K : PySem.W.Frag} {H : Hp} {cs : List (Int × Pt × Pt)} {ys : List V} (h : TpAll K H (cs.map encS) ys) {i : Nat} {x : V} (e : ys[i]? = some x) : ∃ p, cs[i]? = some p ∧ Tp K H (encS p) x := by
  obtain ⟨d, hd, t⟩ := TpAll.get h e
  rw [List.getElem?_map] at hd
  cases c : cs[i]? with
  | none => rw [c] at hd; cases hd
  | some p => rw [c] at hd; cases hd; exact ⟨p, rfl, t⟩
theorem far300 {M r : Nat} (h : M ≤ 300) : far M r ≤ 1000000000 := by
  unfold far
  omega
theorem sml {n : Nat} (h : n ≤ 3000) : n < sizeLine := by
  rw [sizeLine_eq]
  omega
theorem st_eq {T : L2.St → Hp → Prop} {σ σ' : L2.St} {H : Hp} (e : σ = σ') (h : T σ' H) : T σ H := by
  rw [e]
  exact h
section
variable {P : Program} {w : World} {K : PySem.W.Frag} {mg : Str → Option Value} {base : Heap}
theorem sc_law : FnScope nLaw ["_law_script"] (defScope sLaw) := ⟨rfl, rfl, rfl, by decide +kernel, rfl, by decide +kernel, by decide +kernel⟩
theorem ok_law {f fP fD fC fR fM fL fS : Addr} {fd fdP fdD fdC fdR fdM fdL fdS : FuncData} (F : Fun K "law" "law" sLaw f fd) (B0 : Bl mg)
    (DP : Dn P w K mg base CX0 19 "_law_program" fP fdP ["_law_deck_here"] (spProgram K)) (DD : Dn P w K mg base CX0 3 "_law_deck" fD fdD ["_law_script", "_law_start"] (spDeck K))
    (DC : Dn P w K mg base CX0 1 "_law_cell" fC fdC ["_law_script", "_law_k"] (spCell K)) (DR0 : Dn P w K mg base CX0 99 "_law_ran" fR fdR ["_law_program_here", "_law_most_here"] (spRan K))
    (DM : Dn P w K mg base CX0 1 "_law_most" fM fdM ["_law_ran_here", "_law_free", "_law_many"] (spMost K)) (DL : Dn P w K mg base CX0 8 "larger" fL fdL ["program", "factor"] (spLarger K))
    (DS : Dn P w K mg base CX0 1 "_law_scaled" fS fdS ["_law_place", "_law_factor"] (spScaled K)) : FnOk P w K mg base CX0 100 f fd ["_law_script"] (spLaw K) := by
  have DR : Dn P w K mg base CX0 99 "_law_ran" fR fdR ["_law_program_here", "_law_most_here"] (spRan2 K) := ⟨DR0.ok.imp fun _ _ _ _ => ran2_ran, DR0.g, DR0.kp, DR0.b⟩
  refine F.ok sc_law (fun vs H Q E h => ?_) (fun cdv A outer s H vs Q E hr h => ?_)
  · obtain ⟨a, ns, rfl, _⟩ := h
    rfl
  obtain ⟨a, ns, rfl, hS, hlen, q⟩ := h
  refine ⟨_, (pss_cons (ps_set (i := 1) sc_law.nd rfl (.inl rfl) (dn_call DP hr (by omega) rfl pass0 (pa_cons (dn_call DD hr (by omega) rfl pass0 (pa_cons (pv 0) (pa_cons pe_int pa_nil))) pa_nil)))
    (pss_cons (ps_set (i := 2) sc_law.nd rfl (.inl rfl) (pe_op op_mod (dn_call DC hr (by omega) rfl pass0 (pa_cons (pv 0) (pa_cons pe_int pa_nil))) pe_int))
    (pss_cons (ps_set (i := 3) sc_law.nd rfl (.inl rfl) (dn_call DR hr (by omega) rfl pass0 (pa_cons (pv 1) (pa_cons (pv 2) pa_nil))))
    (pss_cons (ps_set (i := 4) sc_law.nd rfl (.inr rfl) (pe_op op_add pe_int (pe_op op_mod (pe_op op_fdiv (dn_call DC hr (by omega) rfl pass0 (pa_cons (pv 0) (pa_cons pe_int pa_nil))) pe_int) (dn_call DM hr (by omega) rfl pass0 (pa_cons (pv 3) (pa_cons (pe_op op_mod (pe_op op_fdiv (dn_call DC hr (by omega) rfl pass0 (pa_cons (pv 0) (pa_cons pe_int pa_nil))) pe_int) pe_int) (pa_cons (pe_callB call_len_seq (by rfl) B0.len (by decide +kernel) (pa_cons (pe_ix ix_tup (pv 1) pe_int (fun _ _ => rfl)) pa_nil)) pa_nil)))))))
    (pss_cons (ps_if (pt_cmpR (op_neD hr.units) (dn_call DL hr (by omega) rfl pass0 (pa_cons (pv 1) (pa_cons pe_int pa_nil))) (pv 1) (nomark _)) (pss_one (ps_ret pe_bl)) pss_nil)
    (pss_cons (ps_set (i := 5) sc_law.nd rfl (.inl rfl) (dn_call DR hr (by omega) rfl pass0 (pa_cons (dn_call DL hr (by omega) rfl pass0 (pa_cons (pv 1) (pa_cons (pv 4) pa_nil))) (pa_cons (pv 2) pa_nil))))
    (pss_cons (ps_if (PW.pt (pw_or (pt_cmpR op_ne (pe_ix ix_list (pv 3) pe_int (fun _ _ => rfl)) (pe_ix ix_list (pv 5) pe_int (fun _ _ => rfl)) (nomark _)) (pw_or1 (pt_cmpR op_ne (pe_ix ix_list (pv 3) pe_int (fun _ _ => rfl)) pe_str (nomark _))))) (pss_one (ps_ret (pe_cmpR op_eq (pe_ix ix_list (pv 3) pe_int (fun _ _ => rfl)) (pe_ix ix_list (pv 5) pe_int (fun _ _ => rfl)) (nomark _)))) pss_nil)
    (pss_cons (ps_asg (pe_ix ix_list (pv 3) pe_int (fun _ _ => rfl)) (pg_tup rfl (pgs_cons (pg_name (i := 8) sc_law.nd rfl (.inl rfl)) (pgs_cons (pg_name (i := 9) sc_law.nd rfl (.inl rfl)) (pgs_cons (pg_name (i := 10) sc_law.nd rfl (.inl rfl)) (pgs_cons (pg_name (i := 11) sc_law.nd rfl (.inl rfl)) (pgs_cons (pg_name (i := 12) sc_law.nd rfl (.inl rfl)) pgs_nil)))))))
    (pss_cons (ps_setLc (i := 6) (own := [("_law_ink", 13), ("_law_begin", 14), ("_law_last", 7)]) (g := (gTup K 3 (gCons (gName 13) (gCons (gName 14) (gCons (gName 7) gNil))))) (te := (teDue K)) (by rfl) sc_law.nd rfl rfl (sw_true rfl rfl rfl (by decide +kernel)) (pi_list (pv 8)) (blkOk_by (N := nLaw) (sc := defScope sLaw) (by decide +kernel)) (fun _ _ _ _ _ => by exact (pg_tup rfl (pgs_cons (pg_name (i := 13) sc_law.nd rfl (.inl rfl)) (pgs_cons (pg_name (i := 14) sc_law.nd rfl (.inl rfl)) (pgs_cons (pg_name (i := 7) sc_law.nd rfl (.inl rfl)) pgs_nil))))) (fun _ _ _ _ _ => pts_nil) (fun _ _ _ _ _ => by exact (pe_tup (pa_cons (pv 13) (pa_cons (dn_call DS hr (by omega) rfl pass0 (pa_cons (pv 14) (pa_cons (pv 4) pa_nil))) (pa_cons (dn_call DS hr (by omega) rfl pass0 (pa_cons (pv 7) (pa_cons (pv 4) pa_nil))) pa_nil))))))
    (pss_cons (ps_if (PW.pt (pw_or (pt_cmpR (op_neD hr.units) (pe_callTy call_list_of (by rfl) B0.list (by decide +kernel) (pa_cons (pe_ix ix_tup (pe_ix ix_list (pv 5) pe_int (fun _ _ => rfl)) pe_int (fun _ _ => rfl)) pa_nil)) (pv 6) (nomark _)) (pw_or1 (pt_cmpR (op_neD hr.units) (pe_callTy call_list_of (by rfl) B0.list (by decide +kernel) (pa_cons (pe_ix ix_tup (pe_ix ix_list (pv 5) pe_int (fun _ _ => rfl)) pe_int (fun _ _ => rfl)) pa_nil)) (pe_lc (own := [("_law_place", 15)]) (g := (gName 15)) (by rfl) sc_law.nd (pi_list (pv 9)) (blkOk_by (N := nLaw) (sc := defScope sLaw) (by decide +kernel)) (fun _ _ _ _ _ => by exact (pg_name (i := 15) sc_law.nd rfl (.inl rfl))) (fun _ _ _ _ _ => pts_nil) (fun _ _ _ _ _ => by exact (dn_call DS hr (by omega) rfl pass0 (pa_cons (pv 15) (pa_cons (pv 4) pa_nil))))) (nomark _))))) (pss_one (ps_ret pe_bl)) pss_nil)
    (pss_cons (ps_set (i := 7) sc_law.nd rfl (.inl rfl) (pe_op op_catT (pe_tup (pa_cons (dn_call DS hr (by omega) rfl pass0 (pa_cons (pe_ix ix_tup (pv 10) pe_int (fun _ _ => rfl)) (pa_cons (pv 4) pa_nil))) pa_nil)) (pe_slice sl_tup (pv 10) (po_some pe_int) po_none)))
    (pss_one (ps_ret (pe_cmpR (op_eqD hr.units) (pe_slice sl_tup (pe_ix ix_list (pv 5) pe_int (fun _ _ => rfl)) (po_some pe_int) po_none) (pe_tup (pa_cons (pv 7) (pa_cons (pv 11) (pa_cons (pv 12) pa_nil)))) (nomark _))))))))))))))), ?_⟩
  refine ⟨_, rfl, a, ns, rfl, hS, hlen, fun l ds H1 l0 s1 hl hds => ?_⟩
  refine ⟨l, ds.length, rfl, ⟨ds, hl, rfl⟩, by omega, fun v p H2 g2 hp ok => ?_⟩
  have s2 : Same H H2 := fun b o e => g2.keep _ _ (ne_of_none e l0) (s1 _ _ e)
  have hS2 := s2.seq hS
  refine ⟨_, rfl, a, ns, 0, rfl, hS2, hlen, by decide, by decide, fun c1 => ⟨_, _, rfl, rfl, (by show (0 : Int) < 301; decide), ?_⟩⟩
  have m0 : 0 ≤ c1 % 301 := by omega
  have m1 : c1 % 301 < 301 := by omega
  obtain ⟨M, hM⟩ : ∃ M : Nat, c1 % 301 = (M : Int) := ⟨(c1 % 301).toNat, by omega⟩
  have M3 : M ≤ 300 := by omega
  have post := prog_post ok M3
  have pall : (p.run M).all fun _ => True := post.imp fun _ _ => trivial
  have iok1 : IntOk (1 : Int) := intOk_small (by decide) (by decide)
  refine ⟨_, rfl, _, rfl, v, p, M, congrArg (fun z => [v, V.int z]) hM, hp, ok.runs1, M3, pall, fun H3 lo e x s3 elo rx => ?_⟩
  have s23 : Same H H3 := s2.trans s3
  have hS3 := s23.seq hS
  have hp3 := Tp.mono (Tups.same s3) _ _ hp
  obtain ⟨pa, xs, rfl, hpa, hx⟩ := Tp.t hp3
  obtain ⟨x1, r1, rfl, hw, hx⟩ := hx.c
  obtain ⟨x2, r2, rfl, hb, hx⟩ := hx.c
  obtain rfl := hx.n
  obtain ⟨pw, xw, rfl, hpw, hxw⟩ := Tp.t hw
  have lw : xw.length = p.ws.length := by
    have := hxw.len
    rw [encWs_len] at this
    exact this
  refine ⟨_, rfl, a, ns, 0, rfl, hS3, hlen, by decide, by decide, fun c2 => ⟨_, _, rfl, rfl, ⟨by decide, by decide⟩, ?_⟩⟩
  refine ⟨_, rfl, _, rfl, a, ns, 0, rfl, hS3, hlen, by decide, by decide, fun c3 => ⟨_, _, rfl, rfl, ⟨by decide, by decide⟩, _, _, rfl, rfl, (by show (0 : Int) < 2; decide), ?_⟩⟩
  refine ⟨_, rfl, pa, _, _, _, rfl, rfl, hpa, atI_nat (j := 0) rfl, pw, _, rfl, .inr hpw, ?_⟩
  refine ⟨lo, e, x, _, _, rfl, elo, (fun m => 1 ≤ m ∧ m ≤ 1000 ∧ ∀ F, 1 ≤ F → F ≤ m → Fine F (p.run M)), fun _ => ?_, fun e0 _ => ?_, fun m H4 s4 gm => ?_⟩
  · rw [lw]
    refine ⟨by split <;> decide, by split <;> decide, fun F f1 f2 => fine_words ok M3 f1 ?_⟩
    by_cases c : p.ws.length > 4
    · rw [if_pos c]
      rw [if_pos (by omega)] at f2
      exact f2
    · rw [if_neg c]
      rw [if_neg (by omega)] at f2
      exact f2
  · rcases rx with ⟨h, d, z, en, _, rfl, rt⟩ | ⟨_, e1⟩
    · have I := en.all post
      refine ⟨z, h, d, rfl, rt, ?_, fun q hq => (I.corners q hq).mono (far300 M3), fun m f f1 cov a1 a2 a3 => ⟨a1, a2, fun F b1 b2 => fine_free ok M3 b1 f1 (by rw [en.hd]; exact cov) (by omega)⟩⟩
      obtain ⟨pre, ep⟩ := I.last
      rw [ep]
      exact fun z => nomatch (List.append_eq_nil_iff.mp z).2
    · rw [e1] at e0
      exact absurd e0 (by decide +kernel)
  obtain ⟨gm1, gm2, fine⟩ := gm
  have q0 : 0 ≤ c2 / 602 % m := Int.emod_nonneg _ (by omega)
  have q1 : c2 / 602 % m < m := Int.emod_lt_of_pos _ (by omega)
  obtain ⟨F, hF⟩ : ∃ F, 1 + c2 / 602 % m = F := ⟨_, rfl⟩
  have f1 : 1 ≤ F := by omega
  have f2 : F ≤ 1000 := by omega
  have fF : Fine F (p.run M) := fine F f1 (by omega)
  have scF := prog_sc f1 fF
  have iokF : IntOk F := intOk_small (by omega) (by omega)
  refine ⟨_, _, rfl, rfl, (by show (0 : Int) < m; omega), _, _, rfl, rfl, ?_⟩
  have s34 : Same H H4 := s23.trans s4
  have hp4 := Tp.mono (Tups.same (s3.trans s4)) _ _ hp
  refine ⟨_, rfl, _, p, 1, rfl, iok1, hp4, ok.fits, ok.goes (by decide) (by decide), fun v1 H5 s5 hv1 => ?_⟩
  rw [p.larger_one] at hv1
  have hp5 := Tp.mono (Tups.same s5) _ _ hp4
  refine ⟨_, rfl, _, _, Tp.dp _ _ hv1, Tp.dp _ _ hp5, ok.lays, ok.lays, _, rfl, ifeqv ok.lays ?_⟩
  refine ⟨_, rfl, _, rfl, _, p, F, congrArg (fun z => [V.ref pa, V.int z]) hF, iokF, hp5, ok.fits, ok.goes f1 f2, fun v2 H6 s6 hv2 => ?_⟩
  refine ⟨_, rfl, v2, p.larger F, M, congrArg (fun z => [v2, V.int z]) hM, hv2, ok.runs f1 f2, M3, by rw [scF]; exact all_sc pall, fun H7 lt e2 y s7 elt ry => ?_⟩
  rw [scF] at ry
  have s37 : Same H3 H7 := s4.trans (s5.trans (s6.trans s7))
  have elo7 := s37 _ _ elo
  rcases rx with ⟨h, d, z, en, rfl, rfl, rt⟩ | ⟨⟨h, en⟩, rfl⟩
  rotate_left
  · -- both stop at a mark that no one made
    have e2 : e2 = "mark" := by
      rcases ry with ⟨h', d', z', en', _⟩ | ⟨_, e2⟩
      · rw [en] at en'
        rcases en' with ⟨en', _⟩ | ⟨en', _⟩ <;> cases en'
      · exact e2
    subst e2
    refine ⟨_, rfl, lo, _, _, _, rfl, rfl, SqL.of elo7, atI_nat (j := 0) rfl, _, rfl, lt, _, _, _, rfl, rfl, SqL.of elt, atI_nat (j := 0) rfl, rfl, _, rfl, ifsn (fun ne => absurd rfl ne) (fun _ => ?_)⟩
    refine ⟨_, rfl, lo, _, _, _, rfl, rfl, SqL.of elo7, atI_nat (j := 0) rfl, rfl, _, rfl, ifsn (fun _ => ?_) (fun z => absurd z (by decide +kernel))⟩
    refine ⟨_, rfl, lo, _, _, _, rfl, rfl, SqL.of elo7, atI_nat (j := 0) rfl, _, rfl, lt, _, _, _, rfl, rfl, SqL.of elt, atI_nat (j := 0) rfl, rfl, ?_⟩
    rw [decide_eq_true rfl]
    exact q _
  have I := en.all post
  obtain ⟨z2, rfl, rfl, rt2⟩ : ∃ z2, e2 = "" ∧ y = .ref z2 ∧ RunTup K H7 z2 (h.sc F) d := by
    rcases ry with ⟨h', d', z', en', e2, ey, rt'⟩ | ⟨⟨h', en'⟩, _⟩
    · obtain ⟨eh, ed⟩ := en.sc en'
      rw [eh, ed] at rt'
      exact ⟨z', e2, ey, rt'⟩
    · rcases en with ⟨en, _⟩ | ⟨en, _⟩ <;> (rw [en] at en'; cases en')
  obtain ⟨st, co, xs, ys, es, hz, hst, hxs, hco, hys, hes, lx, ly⟩ := rt.same s37
  obtain ⟨st2, co2, xs2, ys2, es2, hz2, hst2, hxs2, hco2, hys2, hes2, lx2, ly2⟩ := rt2
  refine ⟨_, rfl, lo, _, _, _, rfl, rfl, SqL.of elo7, atI_nat (j := 0) rfl, _, rfl, lt, _, _, _, rfl, rfl, SqL.of elt, atI_nat (j := 0) rfl, rfl, _, rfl, ifsn (fun ne => absurd rfl ne) (fun _ => ?_)⟩
  refine ⟨_, rfl, lo, _, _, _, rfl, rfl, SqL.of elo7, atI_nat (j := 0) rfl, rfl, _, rfl, ifsn (fun z => absurd rfl z) (fun _ => ?_)⟩
  refine ⟨_, rfl, lo, _, _, _, rfl, rfl, SqL.of elo7, atI_nat (j := 1) rfl, z, _, rfl, hz, rfl, _, _, rfl, _, _, rfl, _, _, rfl, _, _, rfl, _, _, rfl, rfl, ?_⟩
  -- what is due
  refine st_eq (σ' := [some (.ref a), some (.ref pa), some (.int (c1 % 301)), some (.ref lo), some (.int F), some (.ref lt), none, none, some (.ref st), some (.ref co), some es, some (.int h.turns), some (.bl d), none, none, none]) (by rw [← hF]; rfl) ?_
  refine ⟨_, rfl, st, rfl, ⟨_, SqL.of hst⟩, fun D hD => lc_list (K := K) (a := st) (xs := xs) (fun i H8 => ∃ acc : List V, Same H7 H8 ∧ H8 D = some (.lst acc) ∧ acc.length = i ∧ TpAll K H8 (((h.sc F).strokes.map encS).take i) acc)
    ⟨[], same_new hD _, upd_same, rfl, tpa_nil⟩ (fun i H8 _ ⟨_, s8, _⟩ => SqL.of (s8 _ _ hst)) ?_ ?_⟩
  · rintro i x H8 hi ⟨acc, s8, hacc, hal, hta⟩
    have hil : i < xs.length := (List.getElem?_eq_some_iff.mp hi).1
    obtain ⟨s0, hs0, tx⟩ := stroke_at hxs hi
    obtain ⟨bs1, bs2⟩ := I.strokes s0 (List.mem_of_getElem? hs0)
    have hs1 : (h.sc F).strokes[i]? = some (scS F s0) := by
      show (h.strokes.map (scS F))[i]? = _
      rw [List.getElem?_map, hs0]
      rfl
    obtain ⟨ps, vs, rfl, hps, hv⟩ := Tp.t (Tp.mono (Tups.same s8) _ _ tx)
    obtain ⟨y1, r1, rfl, g1, hv⟩ := hv.c
    obtain ⟨y2, r2, rfl, g2, hv⟩ := hv.c
    obtain ⟨y3, r3, rfl, g3, hv⟩ := hv.c
    obtain rfl := hv.n
    obtain rfl := g1.i
    refine ⟨ps, _, rfl, hps, rfl, _, _, rfl, _, _, rfl, _, _, rfl, rfl, rfl, ?_⟩
    refine ⟨_, rfl, _, rfl, _, rfl, y2, s0.2.1, F, rfl, g2, bs1.mono (far300 M3), f1, f2, fun v3 H9 s9 hv3 => ?_⟩
    refine ⟨_, rfl, _, rfl, y3, s0.2.2, F, rfl, Tp.mono (Tups.same s9) _ _ g3, bs2.mono (far300 M3), f1, f2, fun v4 H10 s10 hv4 => ⟨len3, fun l' hl' => ?_⟩⟩
    have s11 := same_new hl' (.tup [.int s0.1, v3, v4])
    have s811 := s9.trans (s10.trans s11)
    have hacc11 := s811 _ _ hacc
    have t12 : Tups (upd H10 l' (.tup [.int s0.1, v3, v4])) (upd (upd H10 l' (.tup [.int s0.1, v3, v4])) D (.lst (acc ++ [.ref l']))) := tups_upd hacc11 nt_lst
    refine ⟨acc, hacc11, sml (by omega), acc ++ [.ref l'], fun b o e => ?_, upd_same, by rw [List.length_append, hal]; rfl, ?_⟩
    · rw [upd_ne (ne_of_none e hD)]
      exact s811 _ _ (s8 _ _ e)
    · rw [take_map hs1]
      exact TpAll.snoc (TpAll.mono ((Tups.same s811).trans t12) _ _ hta) (Tp.mono t12 _ _ (tp_tup sqt_new (tpa_cons tp_int (tpa_cons (Tp.mono (Tups.same (s10.trans s11)) _ _ hv3) (tpa_cons (Tp.mono (Tups.same s11) _ _ hv4) tpa_nil)))))
  · rintro H8 ⟨acc, s8, hacc, hal, hta⟩
    have exl : xs.length = ((h.sc F).strokes.map encS).length := by
      have := hxs.len
      rw [List.length_map] at this ⊢
      show _ = (h.strokes.map (scS F)).length
      rw [List.length_map]
      exact this
    rw [exl, List.take_length] at hta
    have t8 := Tups.same s8
    refine ⟨_, rfl, lt, _, _, _, rfl, rfl, SqL.of (s8 _ _ elt), atI_nat (j := 1) rfl, z2, _, _, _, rfl, rfl, t8.sq hz2, atI_nat (j := 0) rfl, st2, xs2, rfl, .inl (SqL.of (s8 _ _ hst2)), fun c hc => ?_⟩
    have s9 := same_new hc (.lst xs2)
    have s79 := s8.trans s9
    have t79 := Tups.same s79
    refine ⟨_, rfl, _, _, .lst (SqL.of upd_same) (TpAll.dp _ _ (TpAll.mono t79 _ _ hxs2)), .lst (SqL.of (s9 _ _ hacc)) (TpAll.dp _ _ (TpAll.mono (Tups.same s9) _ _ hta)), lays_strokes _, lays_strokes _, _, rfl, ifeqv (lays_strokes _) ?_⟩
    refine ⟨_, rfl, lt, _, _, _, rfl, rfl, SqL.of (s79 _ _ elt), atI_nat (j := 1) rfl, z2, _, _, _, rfl, rfl, t79.sq hz2, atI_nat (j := 1) rfl, co2, ys2, rfl, .inl (SqL.of (s79 _ _ hco2)), fun c' hc' => ?_⟩
    have s10 := same_new hc' (.lst ys2)
    generalize eH : upd (upd H8 c (.lst xs2)) c' (.lst ys2) = H10 at s10
    have hc10 : H10 c' = some (.lst ys2) := by rw [← eH]; exact upd_same
    have s710 : Same H7 H10 := s79.trans s10
    refine ⟨_, rfl, co, rfl, ⟨_, SqL.of (s710 _ _ hco)⟩, fun D2 hD2 => lc_list (K := K) (a := co) (xs := ys) (fun i H11 => ∃ acc : List V, Same H10 H11 ∧ H11 D2 = some (.lst acc) ∧ acc.length = i ∧ TpAll K H11 (((h.sc F).corners.map encP).take i) acc)
      ⟨[], same_new hD2 _, upd_same, rfl, tpa_nil⟩ (fun i H11 _ ⟨_, s11, _⟩ => SqL.of (s11 _ _ (s710 _ _ hco))) ?_ ?_⟩
    · rintro i x H11 hi ⟨acc, s11, hacc, hal, hta⟩
      have hil : i < ys.length := (List.getElem?_eq_some_iff.mp hi).1
      obtain ⟨p0, hp0, tx⟩ := corner_at hys hi
      have hs1 : (h.sc F).corners[i]? = some (p0.sc F) := by
        show (h.corners.map (Pt.sc F))[i]? = _
        rw [List.getElem?_map, hp0]
        rfl
      refine ⟨rfl, ?_⟩
      refine ⟨_, rfl, _, rfl, x, p0, F, rfl, Tp.mono (Tups.same (s710.trans s11)) _ _ tx, (I.corners p0 (List.mem_of_getElem? hp0)).mono (far300 M3), f1, f2, fun v3 H12 s12 hv3 => ?_⟩
      have hacc12 := s12 _ _ hacc
      have t13 : Tups H12 (upd H12 D2 (.lst (acc ++ [v3]))) := tups_upd hacc12 nt_lst
      refine ⟨acc, hacc12, sml (by omega), acc ++ [v3], fun b o e => ?_, upd_same, by rw [List.length_append, hal]; rfl, ?_⟩
      · rw [upd_ne (ne_of_none e hD2)]
        exact s12 _ _ (s11 _ _ e)
      · rw [take_map hs1]
        exact TpAll.snoc (TpAll.mono ((Tups.same s12).trans t13) _ _ hta) (Tp.mono t13 _ _ hv3)
    · rintro H11 ⟨acc, s11, hacc, hal, hta⟩
      have eyl : ys.length = ((h.sc F).corners.map encP).length := by
        have := hys.len
        rw [List.length_map] at this ⊢
        show _ = (h.corners.map (Pt.sc F)).length
        rw [List.length_map]
        exact this
      rw [eyl, List.take_length] at hta
      have s711 : Same H7 H11 := s710.trans s11
      have t711 := Tups.same s711
      refine ⟨_, _, .lst (SqL.of (s11 _ _ hc10)) (TpAll.dp _ _ (TpAll.mono t711 _ _ hys2)), .lst (SqL.of hacc) (TpAll.dp _ _ hta), lays_pts _, lays_pts _, _, rfl, ifeqv (lays_pts _) ?_⟩
      obtain ⟨pe, vs, rfl, hpe, hv⟩ := Tp.t (Tp.mono t711 _ _ hes)
      obtain ⟨y1, r1, rfl, g1, hv⟩ := hv.c
      obtain ⟨y2, r2, rfl, g2, hv⟩ := hv.c
      obtain ⟨y3, r3, rfl, g3, hv⟩ := hv.c
      obtain ⟨y4, r4, rfl, g4, hv⟩ := hv.c
      obtain rfl := hv.n
      obtain rfl := g2.i
      obtain rfl := g3.b
      obtain rfl := g4.i
      refine ⟨_, rfl, pe, _, _, _, rfl, rfl, hpe, atI_nat (j := 0) rfl, _, rfl, y1, h.spot, F, rfl, g1, I.spot.mono (far300 M3), f1, f2, fun v3 H12 s12 hv3 => ⟨len1, fun t1 ht1 => ?_⟩⟩
      have s13 := same_new ht1 (.tup [v3])
      have hpe13 := (Tups.same (s12.trans s13)).sq hpe
      refine ⟨_, rfl, 1, rfl, pe, _, rfl, hpe13, (show ¬ (HT.sIx 4 0 (some 1) = 0 ∧ HT.sIx 4 4 none = 4) by decide), fun t2 ht2 => ?_⟩
      have s14 := same_new ht2 (.tup [.int h.head, .bl h.down, .int h.ink])
      refine ⟨t1, t2, [v3], [.int h.head, .bl h.down, .int h.ink], rfl, rfl, (Tups.same s14).sq sqt_new, sqt_new, (fun z => nomatch z), len4, (fun z => nomatch z), fun _ t3 ht3 => ?_⟩
      have s15 := same_new ht3 (.tup ([v3] ++ [.int h.head, .bl h.down, .int h.ink]))
      have s1115 := s12.trans (s13.trans (s14.trans s15))
      have s715 := s711.trans s1115
      have hn : Tp K _ (.tuple [encP (h.sc F).spot, .int h.head, .bool h.down, .int h.ink]) (.ref t3) := tp_tup (sqt_new (K := K) (H := _) (p := t3)) (tpa_cons (Tp.mono (Tups.same (s13.trans (s14.trans s15))) _ _ hv3) (tpa_cons tp_int (tpa_cons tp_bool (tpa_cons tp_int tpa_nil))))
      refine ⟨_, rfl, lt, _, _, _, rfl, rfl, SqL.of (s715 _ _ elt), atI_nat (j := 1) rfl, 2, rfl, z2, _, rfl, (Tups.same s715).sq hz2, (show ¬ (HT.sIx 5 0 (some 2) = 0 ∧ HT.sIx 5 5 none = 5) by decide), fun t4 ht4 => ?_⟩
      have s16 := same_new ht4 (.tup [es2, .int h.turns, .bl d])
      refine ⟨_, rfl, _, rfl, _, rfl, len3, fun t5 ht5 => ?_⟩
      have s17 := same_new ht5 (.tup [.ref t3, .int h.turns, .bl d])
      have hsh : SeqAt.shaped (.tuple [.tuple [encP (h.sc F).spot, .int h.head, .bool h.down, .int h.ink], .int h.turns, .bool d]) = true :=
        (lays_tup (lays_cons (lays_tup (lays_cons (lays_pt _) (lays_cons (lays_int _ _) (lays_cons (lays_bool _ _) (lays_cons (lays_int _ _) (lays_nil _)))))) (lays_cons (lays_int _ _) (lays_cons (lays_bool _ _) (lays_nil _))))).shaped (by decide)
      refine ⟨.tuple [.tuple [encP (h.sc F).spot, .int h.head, .bool h.down, .int h.ink], .int h.turns, .bool d], .tuple [.tuple [encP (h.sc F).spot, .int h.head, .bool h.down, .int h.ink], .int h.turns, .bool d], Tp.dp _ _ (tp_tup ((Tups.same s17).sq sqt_new) (tpa_cons (Tp.mono (Tups.same (s715.trans (s16.trans s17))) _ _ hes2) (tpa_cons tp_int (tpa_cons tp_bool tpa_nil)))),
        Tp.dp _ _ (tp_tup sqt_new (tpa_cons (Tp.mono (Tups.same (s16.trans s17)) _ _ hn) (tpa_cons tp_int (tpa_cons tp_bool tpa_nil)))), hsh, hsh, ?_⟩
      rw [eqv_self hsh]
      exact q _
end
end TH
set_option Elab.async false
set_option linter.all false
set_option maxRecDepth 100000
set_option maxHeartbeats 400000
namespace TH
open PySem PySem.Spec PyProof.Rows L2
/-! ### what the top has made -/
/-- a def of the top -/
def FF (K : PySem.W.Frag) (mg : Str → Option Value) (x : Str) (st : Stmt) : Prop := ∃ (f : Addr) (fd : FuncData), Fun K x x st f fd ∧ mg x = some (.ref f)
theorem ff_mk {K : PySem.W.Frag} {h : Heap} {mg : Str → Option Value} (X : K.In h) (G : h.Ns mainGlobals mg) {x : Str} {st : Stmt} {f : Addr} {oc : Value} {od an : Option Addr} {osl : Array (Option Value)} {kV doc pm cdv ct : Value}
    (a : PySem.W.nsIn K mainGlobals x = some (some (.ref f))) (l : K.lookup f = some ⟨oc, od, .func (PySem.W.fnOf x x (defArgs st) (defBody st) (defScope st) .none kV doc pm an cdv ct), osl⟩) (c : PySem.W.codeIn K cdv x = true) (k : PySem.W.keepIn K (.ref f) = true) : FF K mg x st :=
  ⟨f, _, fun_mk l c k, PySem.W.mg_of X G a⟩
/-- a method -/
def FM (K : PySem.W.Frag) (C : Addr) (m q : Str) (st : Stmt) : Prop := ∃ (f : Addr) (fd : FuncData), Fun K m q st f fd ∧ Meth K C m f
theorem fm_mk {K : PySem.W.Frag} {C : Addr} {m q : Str} {st : Stmt} {f : Addr} {oc : Value} {od an : Option Addr} {osl : Array (Option Value)} {kV doc pm cdv ct : Value}
    (a : PySem.W.findIn K (.ref C) m = some (some (.ref f))) (i : PySem.W.isFn K (.ref f) = true) (l : K.lookup f = some ⟨oc, od, .func (PySem.W.fnOf m q (defArgs st) (defBody st) (defScope st) .none kV doc pm an cdv ct), osl⟩) (c : PySem.W.codeIn K cdv q = true) (k : PySem.W.keepIn K (.ref f) = true) : FM K C m q st :=
  ⟨f, _, fun_mk l c k, a, i, k⟩
theorem na_nil {K : PySem.W.Frag} {C : Addr} : ∀ (i : Nat) (x : Str), ([] : List Str)[i]? = some x → NoAttr K C x := fun i x e => by cases i <;> cases e
theorem na_cons {K : PySem.W.Frag} {C : Addr} {y : Str} {r : List Str} (h : PySem.W.findIn K (.ref C) y = some none) (t : ∀ (i : Nat) (x : Str), r[i]? = some x → NoAttr K C x) : ∀ (i : Nat) (x : Str), (y :: r)[i]? = some x → NoAttr K C x := fun i x e => by
  cases i with
  | zero => cases e; exact h
  | succ i => exact t i x e
theorem exm_mk {K : PySem.W.Frag} {t c : Addr} {b : Bool} (h1 : PySem.W.subIn K (.ref c) (.type "BaseException") = some true) (h2 : PySem.W.isClsIn K c = true) (h3 : PySem.W.typeIn K (.ref c) = some (.type "type")) (h4 : PySem.W.subIn K (.ref t) (.ref c) = some b) :
    PySem.W.exmOne K (.ref t) (.ref c) = some b := by
  have e1 : (PySem.W.subIn K (.ref c) (.type "BaseException") == some true) = true := by rw [h1] <;> rfl
  have e2 : ((PySem.W.clsIn K c).isSome && PySem.W.typeIn K (.ref c) == some (.type "type")) = true := by
    have h2' : (PySem.W.clsIn K c).isSome = true := h2
    rw [h2', h3] <;> rfl
  show (if (PySem.W.subIn K (.ref c) (.type "BaseException") == some true) = true then (if ((PySem.W.clsIn K c).isSome && PySem.W.typeIn K (.ref c) == some (.type "type")) = true then PySem.W.subIn K (.ref t) (.ref c) else none) else none) = some b
  rw [if_pos e1, if_pos e2]
  exact h4
theorem tup_k {K : PySem.W.Frag} {a : Addr} {xs : List V} {its : Array Value} {n : Nat} {dd : Option Addr} {sl : Array (Option Value)} (l : K.lookup a = some ⟨.type "tuple", dd, .seq its n, sl⟩) (z : its.size ≤ sizeLine) (r : Vals xs its.toList) : ∀ H, SqT K H a xs :=
  fun H => .inr ⟨_, its, n, l, rfl, rfl, z, r⟩
theorem all_mk {l : PySem.W.OpenLaw} {w : World} {K : PySem.W.Frag} {h : Heap} {mg : Str → Option Value} {fa CH CC cS cM cG aB b1 b2 aE fL : Addr} (X : K.In h) (G : h.Ns mainGlobals mg) (hfa : mg "law" = some (.ref fa))
    {tk1 tk2 t1 t2 t3 t4 v1 v2 v3 v4 v5 v6 v7 v8 : Tok} {d0 d1 d2 d3 od an : Option Addr} {n0 n1 n2 n3 : Nat} {u0 u1 u2 u3 osl : Array (Option Value)} {oc kV doc pm cdv ct : Value}
    (h6 : FF K mg "times_over" (top 6))
    (h7 : FF K mg "with_amounts" (top 7))
    (h8 : FF K mg "all_amounts" (top 8))
    (h9 : FF K mg "farthest_go" (top 9))
    (h10 : FF K mg "larger" (top 10))
    (h14 : FF K mg "plus" (top 14))
    (h15 : FF K mg "way_of" (top 15))
    (h16 : FF K mg "moved" (top 16))
    (h22 : FF K mg "do_simple" (top 22))
    (h23 : FF K mg "do_again" (top 23))
    (h24 : FF K mg "do_word" (top 24))
    (h25 : FF K mg "do_statement" (top 25))
    (h26 : FF K mg "do_body" (top 26))
    (h27 : FF K mg "hand_behind" (top 27))
    (h28 : FF K mg "run" (top 28))
    (h30 : FF K mg "_law_mixed" (top 30))
    (h31 : FF K mg "_law_row" (top 31))
    (h32 : FF K mg "_law_cell" (top 32))
    (h33 : FF K mg "_law_deck" (top 33))
    (h34 : FF K mg "_law_next" (top 34))
    (h35 : FF K mg "_law_amount" (top 35))
    (h36 : FF K mg "_law_rounds" (top 36))
    (h37 : FF K mg "_law_choice" (top 37))
    (h38 : FF K mg "_law_call" (top 38))
    (h39 : FF K mg "_law_mark" (top 39))
    (h40 : FF K mg "_law_statement" (top 40))
    (h41 : FF K mg "_law_body" (top 41))
    (h42 : FF K mg "_law_program" (top 42))
    (h43 : FF K mg "_law_ran" (top 43))
    (h44 : FF K mg "_law_scaled" (top 44))
    (h45 : FF K mg "_law_most" (top 45))
    (aH : PySem.W.nsIn K mainGlobals "Hand" = some (some (.ref CH)))
    (aC : PySem.W.nsIn K mainGlobals "Call" = some (some (.ref CC)))
    (pgCH : PySem.W.plainGet K CH Str.empty = true)
    (hdCH : PySem.W.hasDictIn K CH = true)
    (poCH : PySem.W.plainOver K CH = true)
    (saCH : PySem.W.findIn K (.ref CH) "__setattr__" = some (some (.builtin "object.__setattr__")))
    (mkCH : PySem.W.makesIn K CH = true)
    (kcCH : PySem.W.keepIn K (.ref CH) = true)
    (naCH0 : PySem.W.findIn K (.ref CH) "spot" = some none)
    (naCH1 : PySem.W.findIn K (.ref CH) "heading" = some none)
    (naCH2 : PySem.W.findIn K (.ref CH) "is_down" = some none)
    (naCH3 : PySem.W.findIn K (.ref CH) "ink" = some none)
    (naCH4 : PySem.W.findIn K (.ref CH) "marks" = some none)
    (naCH5 : PySem.W.findIn K (.ref CH) "strokes" = some none)
    (naCH6 : PySem.W.findIn K (.ref CH) "corners" = some none)
    (naCH7 : PySem.W.findIn K (.ref CH) "turns" = some none)
    (naCH8 : PySem.W.findIn K (.ref CH) "rest" = some none)
    (naCH9 : PySem.W.findIn K (.ref CH) "plain" = some none)
    (pgCC : PySem.W.plainGet K CC Str.empty = true)
    (hdCC : PySem.W.hasDictIn K CC = true)
    (poCC : PySem.W.plainOver K CC = true)
    (saCC : PySem.W.findIn K (.ref CC) "__setattr__" = some (some (.builtin "object.__setattr__")))
    (mkCC : PySem.W.makesIn K CC = true)
    (kcCC : PySem.W.keepIn K (.ref CC) = true)
    (naCC0 : PySem.W.findIn K (.ref CC) "words" = some none)
    (naCC1 : PySem.W.findIn K (.ref CC) "numbers" = some none)
    (naCC2 : PySem.W.findIn K (.ref CC) "count" = some none)
    (m20_0 : FM K CH "__init__" "Hand.__init__" (inClass (top 20) 0))
    (m20_1 : FM K CH "deed" "Hand.deed" (inClass (top 20) 1))
    (m20_2 : FM K CH "go" "Hand.go" (inClass (top 20) 2))
    (m20_3 : FM K CH "turn" "Hand.turn" (inClass (top 20) 3))
    (m20_4 : FM K CH "back" "Hand.back" (inClass (top 20) 4))
    (m20_5 : FM K CH "state" "Hand.state" (inClass (top 20) 5))
    (m21_0 : FM K CC "__init__" "Call.__init__" (inClass (top 21) 0))
    (m21_1 : FM K CC "value" "Call.value" (inClass (top 21) 1))
    (m21_2 : FM K CC "source_value" "Call.source_value" (inClass (top 21) 2))
    (ecS : PySem.W.nsIn K mainGlobals "Stopped" = some (some (.ref cS)))
    (xcS : PySem.W.excIn K cS [.type "ValueError", .type "Exception", .type "BaseException", .type "object"] "ValueError.__new__" = true)
    (kkcS : PySem.W.keepIn K (.ref cS) = true)
    (bcS : PySem.W.subIn K (.ref cS) (.type "BaseException") = some true)
    (tcS : PySem.W.typeIn K (.ref cS) = some (.type "type"))
    (ecM : PySem.W.nsIn K mainGlobals "NoMark" = some (some (.ref cM)))
    (xcM : PySem.W.excIn K cM [.type "ValueError", .type "Exception", .type "BaseException", .type "object"] "ValueError.__new__" = true)
    (kkcM : PySem.W.keepIn K (.ref cM) = true)
    (bcM : PySem.W.subIn K (.ref cM) (.type "BaseException") = some true)
    (tcM : PySem.W.typeIn K (.ref cM) = some (.type "type"))
    (ecG : PySem.W.nsIn K mainGlobals "TooGreat" = some (some (.ref cG)))
    (iS : PySem.W.isClsIn K cS = true)
    (iM : PySem.W.isClsIn K cM = true)
    (sSS : PySem.W.subIn K (.ref cS) (.ref cS) = some true)
    (sMS : PySem.W.subIn K (.ref cM) (.ref cS) = some false)
    (sMM : PySem.W.subIn K (.ref cM) (.ref cM) = some true)
    (gFar : PySem.W.nsIn K mainGlobals "FARTHEST" = some (some (.int 1000000 tk1)))
    (gMA : PySem.W.nsIn K mainGlobals "MOST_AMOUNT" = some (some (.int 1000000 tk2)))
    (gB : PySem.W.nsIn K mainGlobals "BEGINNING" = some (some (.ref aB)))
    (lB : K.lookup aB = some ⟨.type "tuple", d0, .seq #[.ref b1, .ref b2] n0, u0⟩)
    (lB1 : K.lookup b1 = some ⟨.type "tuple", d1, .seq #[.int 0 t1, .int 0 t2] n1, u1⟩)
    (lB2 : K.lookup b2 = some ⟨.type "tuple", d2, .seq #[.int 0 t3, .int 0 t4] n2, u2⟩)
    (gE : PySem.W.nsIn K mainGlobals "EAST" = some (some (.ref aE)))
    (lE : K.lookup aE = some ⟨.type "tuple", d3, .seq #[.int 1 v1, .int 1 v2, .int 0 v3, .int (-1) v4, .int (-1) v5, .int (-1) v6, .int 0 v7, .int 1 v8] n3, u3⟩)
    (z0 : PySem.W.nsIn K mainGlobals "isinstance" = some none)
    (z1 : PySem.W.nsIn K mainGlobals "tuple" = some none)
    (z2 : PySem.W.nsIn K mainGlobals "max" = some none)
    (z3 : PySem.W.nsIn K mainGlobals "min" = some none)
    (z4 : PySem.W.nsIn K mainGlobals "abs" = some none)
    (z5 : PySem.W.nsIn K mainGlobals "int" = some none)
    (z6 : PySem.W.nsIn K mainGlobals "range" = some none)
    (z7 : PySem.W.nsIn K mainGlobals "len" = some none)
    (z8 : PySem.W.nsIn K mainGlobals "list" = some none)
    (z9 : PySem.W.nsIn K mainGlobals "reversed" = some none)
    (z10 : PySem.W.nsIn K mainGlobals "str" = some none)
    (z11 : PySem.W.nsIn K mainGlobals "zip" = some none)
    (aL : PySem.W.nsIn K mainGlobals "law" = some (some (.ref fL)))
    (lL : K.lookup fL = some ⟨oc, od, .func (PySem.W.fnOf "law" "law" (defArgs sLaw) (defBody sLaw) (defScope sLaw) .none kV doc pm an cdv ct), osl⟩)
    (cL : PySem.W.codeIn K cdv "law" = true)
    (kL : PySem.W.keepIn K (.ref fL) = true)
    : ∃ fd : FuncData, (∀ (s : Shared) (v : Value), BindsTo s fd ⟨[v], []⟩ [("_law_script", v)]) ∧ ∀ base : Heap, K.In base → base.Ns mainGlobals mg → FnOk l.prog w K mg base CX0 100 fa fd ["_law_script"] (spLaw K) := by
  have e := hfa.symm.trans (PySem.W.mg_of X G aL)
  cases e
  obtain ⟨f6, fd6, F6, g6⟩ := h6
  have b6 := F6.binds (ps := ["amount", "times"]) fun _ _ _ _ _ _ us hl => match us, hl with | [_, _], _ => rfl
  obtain ⟨f7, fd7, F7, g7⟩ := h7
  have b7 := F7.binds (ps := ["body", "verb", "times"]) fun _ _ _ _ _ _ us hl => match us, hl with | [_, _, _], _ => rfl
  obtain ⟨f8, fd8, F8, g8⟩ := h8
  have b8 := F8.binds (ps := ["program", "verb", "times"]) fun _ _ _ _ _ _ us hl => match us, hl with | [_, _, _], _ => rfl
  obtain ⟨f9, fd9, F9, g9⟩ := h9
  have b9 := F9.binds (ps := ["body"]) fun _ _ _ _ _ _ us hl => match us, hl with | [_], _ => rfl
  obtain ⟨f10, fd10, F10, g10⟩ := h10
  have b10 := F10.binds (ps := ["program", "factor"]) fun _ _ _ _ _ _ us hl => match us, hl with | [_, _], _ => rfl
  obtain ⟨f14, fd14, F14, g14⟩ := h14
  have b14 := F14.binds (ps := ["one", "other"]) fun _ _ _ _ _ _ us hl => match us, hl with | [_, _], _ => rfl
  obtain ⟨f15, fd15, F15, g15⟩ := h15
  have b15 := F15.binds (ps := ["heading", "steps"]) fun _ _ _ _ _ _ us hl => match us, hl with | [_, _], _ => rfl
  obtain ⟨f16, fd16, F16, g16⟩ := h16
  have b16 := F16.binds (ps := ["place", "heading", "steps"]) fun _ _ _ _ _ _ us hl => match us, hl with | [_, _, _], _ => rfl
  obtain ⟨f22, fd22, F22, g22⟩ := h22
  have b22 := F22.binds (ps := ["hand", "verb", "value"]) fun _ _ _ _ _ _ us hl => match us, hl with | [_, _, _], _ => rfl
  obtain ⟨f23, fd23, F23, g23⟩ := h23
  have b23 := F23.binds (ps := ["hand", "statement", "call"]) fun _ _ _ _ _ _ us hl => match us, hl with | [_, _, _], _ => rfl
  obtain ⟨f24, fd24, F24, g24⟩ := h24
  have b24 := F24.binds (ps := ["hand", "statement", "call"]) fun _ _ _ _ _ _ us hl => match us, hl with | [_, _, _], _ => rfl
  obtain ⟨f25, fd25, F25, g25⟩ := h25
  have b25 := F25.binds (ps := ["hand", "statement", "call"]) fun _ _ _ _ _ _ us hl => match us, hl with | [_, _, _], _ => rfl
  obtain ⟨f26, fd26, F26, g26⟩ := h26
  have b26 := F26.binds (ps := ["hand", "body", "call"]) fun _ _ _ _ _ _ us hl => match us, hl with | [_, _, _], _ => rfl
  obtain ⟨f27, fd27, F27, g27⟩ := h27
  have b27 := F27.binds (ps := ["program", "most"]) fun _ _ _ _ _ _ us hl => match us, hl with | [_, _], _ => rfl
  obtain ⟨f28, fd28, F28, g28⟩ := h28
  have b28 := F28.binds (ps := ["program", "most"]) fun _ _ _ _ _ _ us hl => match us, hl with | [_, _], _ => rfl
  obtain ⟨f30, fd30, F30, g30⟩ := h30
  have b30 := F30.binds (ps := ["_law_cell_here", "_law_k"]) fun _ _ _ _ _ _ us hl => match us, hl with | [_, _], _ => rfl
  obtain ⟨f31, fd31, F31, g31⟩ := h31
  have b31 := F31.binds (ps := ["_law_cell_here", "_law_most_here", "_law_many"]) fun _ _ _ _ _ _ us hl => match us, hl with | [_, _, _], _ => rfl
  obtain ⟨f32, fd32, F32, g32⟩ := h32
  have b32 := F32.binds (ps := ["_law_script", "_law_k"]) fun _ _ _ _ _ _ us hl => match us, hl with | [_, _], _ => rfl
  obtain ⟨f33, fd33, F33, g33⟩ := h33
  have b33 := F33.binds (ps := ["_law_script", "_law_start"]) fun _ _ _ _ _ _ us hl => match us, hl with | [_, _], _ => rfl
  obtain ⟨f34, fd34, F34, g34⟩ := h34
  have b34 := F34.binds (ps := ["_law_deck_here"]) fun _ _ _ _ _ _ us hl => match us, hl with | [_], _ => rfl
  obtain ⟨f35, fd35, F35, g35⟩ := h35
  have b35 := F35.binds (ps := ["_law_deck_here", "_law_inside", "_law_takes"]) fun _ _ _ _ _ _ us hl => match us, hl with | [_, _, _], _ => rfl
  obtain ⟨f36, fd36, F36, g36⟩ := h36
  have b36 := F36.binds (ps := ["_law_deck_here", "_law_deep", "_law_inside", "_law_takes", "_law_words"]) fun _ _ _ _ _ _ us hl => match us, hl with | [_, _, _, _, _], _ => rfl
  obtain ⟨f37, fd37, F37, g37⟩ := h37
  have b37 := F37.binds (ps := ["_law_deck_here", "_law_deep", "_law_inside", "_law_takes", "_law_words"]) fun _ _ _ _ _ _ us hl => match us, hl with | [_, _, _, _, _], _ => rfl
  obtain ⟨f38, fd38, F38, g38⟩ := h38
  have b38 := F38.binds (ps := ["_law_deck_here", "_law_inside", "_law_takes", "_law_words"]) fun _ _ _ _ _ _ us hl => match us, hl with | [_, _, _, _], _ => rfl
  obtain ⟨f39, fd39, F39, g39⟩ := h39
  have b39 := F39.binds (ps := ["_law_deck_here"]) fun _ _ _ _ _ _ us hl => match us, hl with | [_], _ => rfl
  obtain ⟨f40, fd40, F40, g40⟩ := h40
  have b40 := F40.binds (ps := ["_law_deck_here", "_law_deep", "_law_inside", "_law_takes", "_law_words"]) fun _ _ _ _ _ _ us hl => match us, hl with | [_, _, _, _, _], _ => rfl
  obtain ⟨f41, fd41, F41, g41⟩ := h41
  have b41 := F41.binds (ps := ["_law_deck_here", "_law_deep", "_law_inside", "_law_takes", "_law_words"]) fun _ _ _ _ _ _ us hl => match us, hl with | [_, _, _, _, _], _ => rfl
  obtain ⟨f42, fd42, F42, g42⟩ := h42
  have b42 := F42.binds (ps := ["_law_deck_here"]) fun _ _ _ _ _ _ us hl => match us, hl with | [_], _ => rfl
  obtain ⟨f43, fd43, F43, g43⟩ := h43
  have b43 := F43.binds (ps := ["_law_program_here", "_law_most_here"]) fun _ _ _ _ _ _ us hl => match us, hl with | [_, _], _ => rfl
  obtain ⟨f44, fd44, F44, g44⟩ := h44
  have b44 := F44.binds (ps := ["_law_place", "_law_factor"]) fun _ _ _ _ _ _ us hl => match us, hl with | [_, _], _ => rfl
  obtain ⟨f45, fd45, F45, g45⟩ := h45
  have b45 := F45.binds (ps := ["_law_ran_here", "_law_free", "_law_many"]) fun _ _ _ _ _ _ us hl => match us, hl with | [_, _, _], _ => rfl
  obtain ⟨f20_0, fd20_0, F20_0, M20_0⟩ := m20_0
  have b20_0 := F20_0.binds (ps := ["self", "most"]) fun _ _ _ _ _ _ us hl => match us, hl with | [_, _], _ => rfl
  obtain ⟨f20_1, fd20_1, F20_1, M20_1⟩ := m20_1
  have b20_1 := F20_1.binds (ps := ["self"]) fun _ _ _ _ _ _ us hl => match us, hl with | [_], _ => rfl
  obtain ⟨f20_2, fd20_2, F20_2, M20_2⟩ := m20_2
  have b20_2 := F20_2.binds (ps := ["self", "steps"]) fun _ _ _ _ _ _ us hl => match us, hl with | [_, _], _ => rfl
  obtain ⟨f20_3, fd20_3, F20_3, M20_3⟩ := m20_3
  have b20_3 := F20_3.binds (ps := ["self", "eighths"]) fun _ _ _ _ _ _ us hl => match us, hl with | [_, _], _ => rfl
  obtain ⟨f20_4, fd20_4, F20_4, M20_4⟩ := m20_4
  have b20_4 := F20_4.binds (ps := ["self", "number"]) fun _ _ _ _ _ _ us hl => match us, hl with | [_, _], _ => rfl
  obtain ⟨f20_5, fd20_5, F20_5, M20_5⟩ := m20_5
  have b20_5 := F20_5.binds (ps := ["self"]) fun _ _ _ _ _ _ us hl => match us, hl with | [_], _ => rfl
  obtain ⟨f21_0, fd21_0, F21_0, M21_0⟩ := m21_0
  have b21_0 := F21_0.binds (ps := ["self", "words", "numbers", "count"]) fun _ _ _ _ _ _ us hl => match us, hl with | [_, _, _, _], _ => rfl
  obtain ⟨f21_1, fd21_1, F21_1, M21_1⟩ := m21_1
  have b21_1 := F21_1.binds (ps := ["self", "amount"]) fun _ _ _ _ _ _ us hl => match us, hl with | [_, _], _ => rfl
  obtain ⟨f21_2, fd21_2, F21_2, M21_2⟩ := m21_2
  have b21_2 := F21_2.binds (ps := ["self", "source"]) fun _ _ _ _ _ _ us hl => match us, hl with | [_, _], _ => rfl
  have FL := fun_mk (st := sLaw) lL cL kL
  have B0 : Bl mg := ⟨PySem.W.mg_none_of X G z0, PySem.W.mg_none_of X G z1, PySem.W.mg_none_of X G z2, PySem.W.mg_none_of X G z3, PySem.W.mg_none_of X G z4, PySem.W.mg_none_of X G z5, PySem.W.mg_none_of X G z6, PySem.W.mg_none_of X G z7, PySem.W.mg_none_of X G z8, PySem.W.mg_none_of X G z9, PySem.W.mg_none_of X G z10, PySem.W.mg_none_of X G z11⟩
  have TH1 : ClsT K CH FN := ⟨⟨pgCH, hdCH, poCH, saCH⟩, (na_cons naCH0 (na_cons naCH1 (na_cons naCH2 (na_cons naCH3 (na_cons naCH4 (na_cons naCH5 (na_cons naCH6 (na_cons naCH7 (na_cons naCH8 (na_cons naCH9 na_nil))))))))))⟩
  have TC1 : ClsT K CC CN := ⟨⟨pgCC, hdCC, poCC, saCC⟩, (na_cons naCC0 (na_cons naCC1 (na_cons naCC2 na_nil)))⟩
  have XS : ExT K mg "Stopped" cS := ⟨PySem.W.mg_of X G ecS, xcS, kkcS, bcS, tcS⟩
  have XM : ExT K mg "NoMark" cM := ⟨PySem.W.mg_of X G ecM, xcM, kkcM, bcM, tcM⟩
  have MH : Mk K CH f20_0 := ⟨mkCH, M20_0.at_, M20_0.fn, kcCH⟩
  have MC : Mk K CC f21_0 := ⟨mkCC, M21_0.at_, M21_0.fn, kcCC⟩
  have hB : ∀ H, Tp K H (encP origin) (.ref aB) := fun H => tp_tup (tup_k (xs := [.ref b1, .ref b2]) lB len2 (.cons rfl (.cons rfl .nil)) H) (tpa_cons (tp_tup (tup_k (xs := [.int 0, .int 0]) lB1 len2 (.cons ⟨_, rfl⟩ (.cons ⟨_, rfl⟩ .nil)) H) (tpa_cons tp_int (tpa_cons tp_int tpa_nil)))
    (tpa_cons (tp_tup (tup_k (xs := [.int 0, .int 0]) lB2 len2 (.cons ⟨_, rfl⟩ (.cons ⟨_, rfl⟩ .nil)) H) (tpa_cons tp_int (tpa_cons tp_int tpa_nil))) tpa_nil))
  have hE : ∀ H, SqT K H aE (eastL.map V.int) := tup_k lE (show 8 ≤ sizeLine by rw [sizeLine_eq]; decide) (.cons ⟨_, rfl⟩ (.cons ⟨_, rfl⟩ (.cons ⟨_, rfl⟩ (.cons ⟨_, rfl⟩ (.cons ⟨_, rfl⟩ (.cons ⟨_, rfl⟩ (.cons ⟨_, rfl⟩ (.cons ⟨_, rfl⟩ .nil))))))))
  refine ⟨PySem.W.fnOf "law" "law" (defArgs sLaw) (defBody sLaw) (defScope sLaw) .none kV doc pm an cdv ct, fun s v => .of_eq rfl, fun base _ _ => ?_⟩
  have DT0 : Dn l.prog w K mg base CX0 1 "times_over" f6 fd6 ["amount", "times"] (spTimes K) := ⟨ok_times F6 B0, g6, F6.kp, b6⟩
  have DW0 : Dn l.prog w K mg base CX0 6 "with_amounts" f7 fd7 ["body", "verb", "times"] (spWith K 5) := ⟨ok_with F7 B0 DT0 g7 b7 5, g7, F7.kp, b7⟩
  have DA0 : Dn l.prog w K mg base CX0 7 "all_amounts" f8 fd8 ["program", "verb", "times"] (spAll K) := ⟨ok_all F8 B0 DW0, g8, F8.kp, b8⟩
  have DF0 : Dn l.prog w K mg base CX0 6 "farthest_go" f9 fd9 ["body"] (spFar K 5) := ⟨ok_far F9 B0 g9 b9 5, g9, F9.kp, b9⟩
  have DL : Dn l.prog w K mg base CX0 8 "larger" f10 fd10 ["program", "factor"] (spLarger K) := ⟨ok_larger F10 B0 (PySem.W.mg_of X G gFar) DA0 DF0, g10, F10.kp, b10⟩
  have DPl : Dn l.prog w K mg base CX0 1 "plus" f14 fd14 ["one", "other"] (spPlus K) := ⟨ok_plus F14, g14, F14.kp, b14⟩
  have DWy : Dn l.prog w K mg base CX0 1 "way_of" f15 fd15 ["heading", "steps"] (spWay K) := ⟨ok_way F15 (PySem.W.mg_of X G gE) hE, g15, F15.kp, b15⟩
  have DMv : Dn l.prog w K mg base CX0 2 "moved" f16 fd16 ["place", "heading", "steps"] (spMoved K) := ⟨ok_moved F16 DPl DWy, g16, F16.kp, b16⟩
  have DD : Dm l.prog w K mg base (L2.CX l.prog w) 2 CH "deed" f20_1 fd20_1 ["self"] (spDeed K CH cS) := ⟨ok_deed F20_1 TH1 XS, TH1.cl, M20_1, b20_1⟩
  have DTu : Dm l.prog w K mg base CX0 1 CH "turn" f20_3 fd20_3 ["self", "eighths"] (spTurn K CH) := ⟨ok_turn F20_3 TH1, TH1.cl, M20_3, b20_3⟩
  have DSt : Dm l.prog w K mg base CX0 1 CH "state" f20_5 fd20_5 ["self"] (spState K CH) := ⟨ok_state F20_5 TH1, TH1.cl, M20_5, b20_5⟩
  have DGo : Dm l.prog w K mg base CX0 3 CH "go" f20_2 fd20_2 ["self", "steps"] (spGo K CH) := ⟨ok_go F20_2 TH1 DMv, TH1.cl, M20_2, b20_2⟩
  have DBk : Dm l.prog w K mg base (L2.CX l.prog w) 2 CH "back" f20_4 fd20_4 ["self", "number"] (spBack K CH cM) := ⟨ok_back F20_4 TH1 XM, TH1.cl, M20_4, b20_4⟩
  have DHI : FnOk l.prog w K mg base CX0 1 f20_0 fd20_0 ["self", "most"] (spHInit K CH) := ok_hinit F20_0 TH1 (PySem.W.mg_of X G gB) hB
  have DCI : FnOk l.prog w K mg base CX0 1 f21_0 fd21_0 ["self", "words", "numbers", "count"] (spCInit CC) := ok_cinit F21_0 TC1
  have DSr : Dm l.prog w K mg base CX0 1 CC "source_value" f21_2 fd21_2 ["self", "source"] (spSrc CC) := ⟨ok_src F21_2 TC1 B0, TC1.cl, M21_2, b21_2⟩
  have DV : Dm l.prog w K mg base CX0 2 CC "value" f21_1 fd21_1 ["self", "amount"] (spValue K CC) := ⟨ok_value F21_1 TC1 B0 (PySem.W.mg_of X G gMA) DSr, TC1.cl, M21_1, b21_1⟩
  have DSi : Dn l.prog w K mg base (L2.CX l.prog w) 4 "do_simple" f22 fd22 ["hand", "verb", "value"] (spSimple K CH cS cM) := ⟨ok_simple F22 TH1 DGo DTu DBk, g22, F22.kp, b22⟩
  have gCC := PySem.W.mg_of X G aC
  have gCH := PySem.W.mg_of X G aH
  have DBo : Dn l.prog w K mg base (L2.CX l.prog w) 96 "do_body" f26 fd26 ["hand", "body", "call"] (spBody K CH CC cS cM 30) := ⟨ok_body B0 TH1 TC1 MC gCC DCI b21_0 DD DV DSt DSi F26 g26 b26 F25 g25 b25 F23 g23 b23 F24 g24 b24 30, g26, F26.kp, b26⟩
  have DBe : Dn l.prog w K mg base (L2.CX l.prog w) 97 "hand_behind" f27 fd27 ["program", "most"] (spBehind K CH cM) := ⟨ok_behind F27 MC gCC DCI b21_0 MH gCH DHI b20_0 XS.g (exm_mk bcS iS tcS sSS) (exm_mk bcS iS tcS sMS) DBo, g27, F27.kp, b27⟩
  have DRu : Dn l.prog w K mg base (L2.CX l.prog w) 98 "run" f28 fd28 ["program", "most"] (spRun K cM) := ⟨ok_run F28 TH1 DSt DBe, g28, F28.kp, b28⟩
  have DRa : Dn l.prog w K mg base CX0 99 "_law_ran" f43 fd43 ["_law_program_here", "_law_most_here"] (spRan K) := ⟨ok_ran F43 XM.g (PySem.W.mg_of X G ecG) (exm_mk bcM iM tcM sMM) DRu, g43, F43.kp, b43⟩
  have DMx : Dn l.prog w K mg base CX0 1 "_law_mixed" f30 fd30 ["_law_cell_here", "_law_k"] spMixed := ⟨ok_mixed F30, g30, F30.kp, b30⟩
  have DRw : Dn l.prog w K mg base CX0 2 "_law_row" f31 fd31 ["_law_cell_here", "_law_most_here", "_law_many"] spRow := ⟨ok_row F31 B0 DMx, g31, F31.kp, b31⟩
  have DCe : Dn l.prog w K mg base CX0 1 "_law_cell" f32 fd32 ["_law_script", "_law_k"] (spCell K) := ⟨ok_cell F32 B0, g32, F32.kp, b32⟩
  have DDe : Dn l.prog w K mg base CX0 3 "_law_deck" f33 fd33 ["_law_script", "_law_start"] (spDeck K) := ⟨ok_deck F33 B0 DRw DCe, g33, F33.kp, b33⟩
  have DN : Dn l.prog w K mg base CX0 1 "_law_next" f34 fd34 ["_law_deck_here"] spNext := ⟨ok_next F34 B0, g34, F34.kp, b34⟩
  have DAm : Dn l.prog w K mg base CX0 2 "_law_amount" f35 fd35 ["_law_deck_here", "_law_inside", "_law_takes"] (spAmt K) := ⟨ok_amt F35 B0 DN, g35, F35.kp, b35⟩
  have DMk : Dn l.prog w K mg base CX0 2 "_law_mark" f39 fd39 ["_law_deck_here"] spMarkG := ⟨ok_markg F39 DN, g39, F39.kp, b39⟩
  have DCg : Dn l.prog w K mg base CX0 3 "_law_call" f38 fd38 ["_law_deck_here", "_law_inside", "_law_takes", "_law_words"] (spCallG K) := ⟨ok_callg F38 B0 DN DAm, g38, F38.kp, b38⟩
  have DBg : Dn l.prog w K mg base CX0 18 "_law_body" f41 fd41 ["_law_deck_here", "_law_deep", "_law_inside", "_law_takes", "_law_words"] (spBodyG K 5) := ⟨ok_bodyg B0 DN DAm DMk DCg F41 g41 b41 F40 g40 b40 F36 g36 b36 F37 g37 b37 5, g41, F41.kp, b41⟩
  have DPr : Dn l.prog w K mg base CX0 19 "_law_program" f42 fd42 ["_law_deck_here"] (spProgram K) := ⟨ok_prog F42 B0 DN DBg, g42, F42.kp, b42⟩
  have DSc : Dn l.prog w K mg base CX0 1 "_law_scaled" f44 fd44 ["_law_place", "_law_factor"] (spScaled K) := ⟨ok_scaled F44 B0, g44, F44.kp, b44⟩
  have DMo : Dn l.prog w K mg base CX0 1 "_law_most" f45 fd45 ["_law_ran_here", "_law_free", "_law_many"] (spMost K) := ⟨ok_most F45 B0, g45, F45.kp, b45⟩
  exact ok_law FL B0 DPr DDe DCe DRa DMo DL DSc
theorem walk {l : PySem.W.OpenLaw} {q : Program} {loose : List Str} {XP : (Str → Option Value) → Heap → Prop} {YP : World → Heap → Prop} {d : DefRec} {K : Params → PySem.W.Frag} (hn : l.most = some 63) (hdf : d.params.defaults = [])
    (hY : ∀ (w : World) (h : Heap), YP w h → (K w.params).In h)
    (F : ∀ (w : World) (mg : Str → Option Value) (fa : Addr) (h : Heap), (K w.params).In h → h.Ns mainGlobals mg → mg d.name = some (.ref fa) →
      ∃ fd : FuncData, (∀ (s : Shared) (u : Value), BindsTo s fd ⟨[u], []⟩ [("_law_script", u)]) ∧ ∀ base : Heap, (K w.params).In base → base.Ns mainGlobals mg → FnOk l.prog w (K w.params) mg base CX0 100 fa fd ["_law_script"] (spLaw (K w.params))) :
    PySem.W.WalkO q loose XP YP l.row.toRowW d [] (fun f vs => PySem.call f vs) :=
  L2.walk_of (n := 63) (k := 100) (x := "_law_script") (CX := fun _ => CX0) (sp := fun w => spLaw (K w.params)) hn (by decide) hdf ⟨rfl, by decide, by decide⟩ hY F (fun _ _ a ns hl _ hS => ⟨a, ns, rfl, hS, hl, fun _ => rfl⟩) fun _ _ _ _ _ z => z
end TH
open PySem PySem.W PyProof.Rows
set_option maxRecDepth 100000 in
set_option maxHeartbeats 0 in
theorem PySem.Challenge.cw_turtlehouse_k52_whole_larger_holds : PySem.Challenge.rw_turtlehouse_k52_whole_larger.Holds := by
  w_on; o_law; k_head; (case hw => w_witness2)
  k_fill
  refine TH.walk (l := PySem.Challenge.rw_turtlehouse_k52_whole_larger) rfl rfl (fun w h Y => PySem.W.kIn_of Y) ?F
  case F =>
    intro w mg fa h KX G hmg
    refine' TH.all_mk KX G hmg (TH.ff_mk KX G ?a6 ?l6 ?c6 ?k6) (TH.ff_mk KX G ?a7 ?l7 ?c7 ?k7) (TH.ff_mk KX G ?a8 ?l8 ?c8 ?k8) (TH.ff_mk KX G ?a9 ?l9 ?c9 ?k9) (TH.ff_mk KX G ?a10 ?l10 ?c10 ?k10) (TH.ff_mk KX G ?a14 ?l14 ?c14 ?k14) (TH.ff_mk KX G ?a15 ?l15 ?c15 ?k15) (TH.ff_mk KX G ?a16 ?l16 ?c16 ?k16) (TH.ff_mk KX G ?a22 ?l22 ?c22 ?k22) (TH.ff_mk KX G ?a23 ?l23 ?c23 ?k23) (TH.ff_mk KX G ?a24 ?l24 ?c24 ?k24) (TH.ff_mk KX G ?a25 ?l25 ?c25 ?k25) (TH.ff_mk KX G ?a26 ?l26 ?c26 ?k26) (TH.ff_mk KX G ?a27 ?l27 ?c27 ?k27) (TH.ff_mk KX G ?a28 ?l28 ?c28 ?k28) (TH.ff_mk KX G ?a30 ?l30 ?c30 ?k30) (TH.ff_mk KX G ?a31 ?l31 ?c31 ?k31) (TH.ff_mk KX G ?a32 ?l32 ?c32 ?k32) (TH.ff_mk KX G ?a33 ?l33 ?c33 ?k33) (TH.ff_mk KX G ?a34 ?l34 ?c34 ?k34) (TH.ff_mk KX G ?a35 ?l35 ?c35 ?k35) (TH.ff_mk KX G ?a36 ?l36 ?c36 ?k36) (TH.ff_mk KX G ?a37 ?l37 ?c37 ?k37) (TH.ff_mk KX G ?a38 ?l38 ?c38 ?k38) (TH.ff_mk KX G ?a39 ?l39 ?c39 ?k39) (TH.ff_mk KX G ?a40 ?l40 ?c40 ?k40) (TH.ff_mk KX G ?a41 ?l41 ?c41 ?k41) (TH.ff_mk KX G ?a42 ?l42 ?c42 ?k42) (TH.ff_mk KX G ?a43 ?l43 ?c43 ?k43) (TH.ff_mk KX G ?a44 ?l44 ?c44 ?k44) (TH.ff_mk KX G ?a45 ?l45 ?c45 ?k45) ?aH ?aC ?pgCH ?hdCH ?poCH ?saCH ?mkCH ?kcCH ?naCH0 ?naCH1 ?naCH2 ?naCH3 ?naCH4 ?naCH5 ?naCH6 ?naCH7 ?naCH8 ?naCH9 ?pgCC ?hdCC ?poCC ?saCC ?mkCC ?kcCC ?naCC0 ?naCC1 ?naCC2 (TH.fm_mk ?ma20_0 ?mi20_0 ?ml20_0 ?mc20_0 ?mk20_0) (TH.fm_mk ?ma20_1 ?mi20_1 ?ml20_1 ?mc20_1 ?mk20_1) (TH.fm_mk ?ma20_2 ?mi20_2 ?ml20_2 ?mc20_2 ?mk20_2) (TH.fm_mk ?ma20_3 ?mi20_3 ?ml20_3 ?mc20_3 ?mk20_3) (TH.fm_mk ?ma20_4 ?mi20_4 ?ml20_4 ?mc20_4 ?mk20_4) (TH.fm_mk ?ma20_5 ?mi20_5 ?ml20_5 ?mc20_5 ?mk20_5) (TH.fm_mk ?ma21_0 ?mi21_0 ?ml21_0 ?mc21_0 ?mk21_0) (TH.fm_mk ?ma21_1 ?mi21_1 ?ml21_1 ?mc21_1 ?mk21_1) (TH.fm_mk ?ma21_2 ?mi21_2 ?ml21_2 ?mc21_2 ?mk21_2) ?ecS ?xcS ?kkcS ?bcS ?tcS ?ecM ?xcM ?kkcM ?bcM ?tcM ?ecG ?iS ?iM ?sSS ?sMS ?sMM ?gFar ?gMA ?gB ?lB ?lB1 ?lB2 ?gE ?lE ?z0 ?z1 ?z2 ?z3 ?z4 ?z5 ?z6 ?z7 ?z8 ?z9 ?z10 ?z11 ?aL ?lL ?cL ?kL
    (case a6 => k_is); (case l6 => k_is); (case c6 => k_is); (case k6 => k_is)
    (case a7 => k_is); (case l7 => k_is); (case c7 => k_is); (case k7 => k_is)
    (case a8 => k_is); (case l8 => k_is); (case c8 => k_is); (case k8 => k_is)
    (case a9 => k_is); (case l9 => k_is); (case c9 => k_is); (case k9 => k_is)
    (case a10 => k_is); (case l10 => k_is); (case c10 => k_is); (case k10 => k_is)
    (case a14 => k_is); (case l14 => k_is); (case c14 => k_is); (case k14 => k_is)
    (case a15 => k_is); (case l15 => k_is); (case c15 => k_is); (case k15 => k_is)
    (case a16 => k_is); (case l16 => k_is); (case c16 => k_is); (case k16 => k_is)
    (case a22 => k_is); (case l22 => k_is); (case c22 => k_is); (case k22 => k_is)
    (case a23 => k_is); (case l23 => k_is); (case c23 => k_is); (case k23 => k_is)
    (case a24 => k_is); (case l24 => k_is); (case c24 => k_is); (case k24 => k_is)
    (case a25 => k_is); (case l25 => k_is); (case c25 => k_is); (case k25 => k_is)
    (case a26 => k_is); (case l26 => k_is); (case c26 => k_is); (case k26 => k_is)
    (case a27 => k_is); (case l27 => k_is); (case c27 => k_is); (case k27 => k_is)
    (case a28 => k_is); (case l28 => k_is); (case c28 => k_is); (case k28 => k_is)
    (case a30 => k_is); (case l30 => k_is); (case c30 => k_is); (case k30 => k_is)
    (case a31 => k_is); (case l31 => k_is); (case c31 => k_is); (case k31 => k_is)
    (case a32 => k_is); (case l32 => k_is); (case c32 => k_is); (case k32 => k_is)
    (case a33 => k_is); (case l33 => k_is); (case c33 => k_is); (case k33 => k_is)
    (case a34 => k_is); (case l34 => k_is); (case c34 => k_is); (case k34 => k_is)
    (case a35 => k_is); (case l35 => k_is); (case c35 => k_is); (case k35 => k_is)
    (case a36 => k_is); (case l36 => k_is); (case c36 => k_is); (case k36 => k_is)
    (case a37 => k_is); (case l37 => k_is); (case c37 => k_is); (case k37 => k_is)
    (case a38 => k_is); (case l38 => k_is); (case c38 => k_is); (case k38 => k_is)
    (case a39 => k_is); (case l39 => k_is); (case c39 => k_is); (case k39 => k_is)
    (case a40 => k_is); (case l40 => k_is); (case c40 => k_is); (case k40 => k_is)
    (case a41 => k_is); (case l41 => k_is); (case c41 => k_is); (case k41 => k_is)
    (case a42 => k_is); (case l42 => k_is); (case c42 => k_is); (case k42 => k_is)
    (case a43 => k_is); (case l43 => k_is); (case c43 => k_is); (case k43 => k_is)
    (case a44 => k_is); (case l44 => k_is); (case c44 => k_is); (case k44 => k_is)
    (case a45 => k_is); (case l45 => k_is); (case c45 => k_is); (case k45 => k_is)
    (case aH => k_is)
    (case aC => k_is)
    (case pgCH => k_is)
    (case hdCH => k_is)
    (case poCH => k_is)
    (case saCH => k_is)
    (case mkCH => k_is)
    (case kcCH => k_is)
    (case naCH0 => k_is)
    (case naCH1 => k_is)
    (case naCH2 => k_is)
    (case naCH3 => k_is)
    (case naCH4 => k_is)
    (case naCH5 => k_is)
    (case naCH6 => k_is)
    (case naCH7 => k_is)
    (case naCH8 => k_is)
    (case naCH9 => k_is)
    (case pgCC => k_is)
    (case hdCC => k_is)
    (case poCC => k_is)
    (case saCC => k_is)
    (case mkCC => k_is)
    (case kcCC => k_is)
    (case naCC0 => k_is)
    (case naCC1 => k_is)
    (case naCC2 => k_is)
    (case ma20_0 => k_is); (case mi20_0 => k_is); (case ml20_0 => k_is); (case mc20_0 => k_is); (case mk20_0 => k_is)
    (case ma20_1 => k_is); (case mi20_1 => k_is); (case ml20_1 => k_is); (case mc20_1 => k_is); (case mk20_1 => k_is)
    (case ma20_2 => k_is); (case mi20_2 => k_is); (case ml20_2 => k_is); (case mc20_2 => k_is); (case mk20_2 => k_is)
    (case ma20_3 => k_is); (case mi20_3 => k_is); (case ml20_3 => k_is); (case mc20_3 => k_is); (case mk20_3 => k_is)
    (case ma20_4 => k_is); (case mi20_4 => k_is); (case ml20_4 => k_is); (case mc20_4 => k_is); (case mk20_4 => k_is)
    (case ma20_5 => k_is); (case mi20_5 => k_is); (case ml20_5 => k_is); (case mc20_5 => k_is); (case mk20_5 => k_is)
    (case ma21_0 => k_is); (case mi21_0 => k_is); (case ml21_0 => k_is); (case mc21_0 => k_is); (case mk21_0 => k_is)
    (case ma21_1 => k_is); (case mi21_1 => k_is); (case ml21_1 => k_is); (case mc21_1 => k_is); (case mk21_1 => k_is)
    (case ma21_2 => k_is); (case mi21_2 => k_is); (case ml21_2 => k_is); (case mc21_2 => k_is); (case mk21_2 => k_is)
    (case ecS => k_is)
    (case xcS => k_exc)
    (case kkcS => k_is)
    (case bcS => k_is)
    (case tcS => k_is)
    (case ecM => k_is)
    (case xcM => k_exc)
    (case kkcM => k_is)
    (case bcM => k_is)
    (case tcM => k_is)
    (case ecG => k_is)
    (case iS => k_is)
    (case iM => k_is)
    (case sSS => first | rfl | k_is)
    (case sMS => first | rfl | k_is)
    (case sMM => first | rfl | k_is)
    (case gFar => k_is)
    (case gMA => k_is)
    (case gB => k_is)
    (case lB => k_is)
    (case lB1 => k_is)
    (case lB2 => k_is)
    (case gE => k_is)
    (case lE => k_is)
    (case z0 => k_is)
    (case z1 => k_is)
    (case z2 => k_is)
    (case z3 => k_is)
    (case z4 => k_is)
    (case z5 => k_is)
    (case z6 => k_is)
    (case z7 => k_is)
    (case z8 => k_is)
    (case z9 => k_is)
    (case z10 => k_is)
    (case z11 => k_is)
    (case aL => k_is)
    (case lL => k_is)
    (case cL => k_is)
    (case kL => k_is)
#print axioms PySem.Challenge.cw_turtlehouse_k52_whole_larger_holds
