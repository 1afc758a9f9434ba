import PyProof.Rows.All
import HandS.Base
import HandS.Call
import HandS.Dict
import HandS.List
import HandS.Iter
import HandS.Comp
import HandS.Walk
import KE.KDictKeyed
import KE.KDictWalk
import KE.KDictDisplayH
import HandS.ForMost
import HandS.Zip
import HandS.Strs
import KE.KIndexOf
import KE.GoesMore
import KE.DataMinMax
import KE.SortData
import KE.KDictSum
import KE.KDictCopyH
import PyProof.Rows.StrStep
import HandS.SetBool
import Wide.All
import OpenK.AllK
import Wide.FinOn
import HandS.Defaults
import HandS.HeadHook3
import HandS.HeadHook4
import HandS.Head0
import HandS.Head1
import HandS.Head2
import HandS.HeadEnd
import HandS.IsInst
import HandS.NoneIn
import HandS.Conv
import HandS.SortRule
import HandS.SortInts
import HandS.Wide
import HandS.Text
import HandS.More
import HandS.TupAny
import HandS.Small
import HandS.Evl
import PySem.Challenge.RW_tumblemarks_k27_whole_brought_and_brough
set_option Elab.async false
set_option linter.all false
set_option maxRecDepth 100000
/-! ## TMath -/
section
/-! Plain mathematics of the cube and the floor: cells, lyings, places, rows, undoing, reaching. No program here. -/
namespace TM
inductive Lt where | e | n | s | w
  deriving DecidableEq
abbrev Cell := Int × Int
abbrev Ly := Int × Int × Int
abbrev Pl := Cell × Ly × Int
def stp : Lt → Int × Int
  | .e => (1, 0)
  | .n => (0, 1)
  | .s => (0, -1)
  | .w => (-1, 0)
def bes (c : Cell) (l : Lt) : Cell := (c.1 + (stp l).1, c.2 + (stp l).2)
def rol (y : Ly) : Lt → Ly
  | .n => (y.2.1, 5 - y.1, y.2.2)
  | .s => (5 - y.2.1, y.1, y.2.2)
  | .e => (y.2.2, y.2.1, 5 - y.1)
  | .w => (5 - y.2.2, y.2.1, y.1)
def bk : Lt → Lt
  | .e => .w
  | .n => .s
  | .s => .n
  | .w => .e
def lts : List Lt := [.e, .n, .s, .w]
theorem mem_lts (l : Lt) : l ∈ lts := by cases l <;> simp [lts]
def allLy : List Ly := [(0, 1, 2), (0, 2, 4), (0, 3, 1), (0, 4, 3), (1, 0, 3), (1, 2, 0), (1, 3, 5), (1, 5, 2), (2, 0, 1), (2, 1, 5), (2, 4, 0), (2, 5, 4), (3, 0, 4), (3, 1, 0), (3, 4, 5), (3, 5, 1), (4, 0, 2), (4, 2, 5), (4, 3, 0), (4, 5, 3), (5, 1, 3), (5, 2, 1), (5, 3, 4), (5, 4, 2)]
theorem rol_all : ∀ y ∈ allLy, ∀ l ∈ lts, rol y l ∈ allLy := by decide +kernel
theorem rol_mem {y : Ly} (h : y ∈ allLy) (l : Lt) : rol y l ∈ allLy := rol_all y h l (mem_lts l)
theorem low_all : ∀ y ∈ allLy, 0 ≤ y.1 ∧ y.1 ≤ 5 := by decide +kernel
theorem low_ne_all : ∀ y ∈ allLy, ∀ l ∈ lts, (rol y l).1 ≠ y.1 := by decide +kernel
theorem low_ne {y : Ly} (h : y ∈ allLy) (l : Lt) : (rol y l).1 ≠ y.1 := low_ne_all y h l (mem_lts l)
theorem bk_bk (l : Lt) : bk (bk l) = l := by cases l <;> rfl
theorem bes_bk (c : Cell) (l : Lt) : bes (bes c l) (bk l) = c := by
  obtain ⟨a, b⟩ := c
  cases l <;> simp [bes, stp, bk] <;> omega
theorem bes_ne (c : Cell) (l : Lt) : bes c l ≠ c := by
  obtain ⟨a, b⟩ := c
  cases l <;> simp [bes, stp] <;> omega
theorem rol_bk (y : Ly) (l : Lt) : rol (rol y l) (bk l) = y := by
  obtain ⟨a, b, c⟩ := y
  cases l <;> simp [rol, bk] <;> omega

/-! ### places -/
def sw (a b s : Int) : Int := if s = a ∨ s = b then a + b - s else s
def own (fl : List Cell) (c : Cell) : Int := 6 + (fl.idxOf c : Nat)
def mv (fl : List Cell) (p : Pl) (l : Lt) : Option Pl :=
  if bes p.1 l ∈ fl then some (bes p.1 l, rol p.2.1 l, sw (own fl (bes p.1 l)) (rol p.2.1 l).1 p.2.2) else none
def mvs (fl : List Cell) : Pl → List Lt → Option Pl
  | p, [] => some p
  | p, l :: r => match mv fl p l with
    | none => none
    | some q => mvs fl q r
def lets (fl : List Cell) : Cell → List Lt → Prop
  | _, [] => True
  | c, l :: r => bes c l ∈ fl ∧ lets fl (bes c l) r
def sby : Cell × Ly → List Lt → Cell × Ly
  | st, [] => st
  | st, l :: r => sby (bes st.1 l, rol st.2 l) r

theorem own_ge (fl : List Cell) (c : Cell) : 6 ≤ own fl c := by unfold own; omega
theorem own_lt {fl : List Cell} {c : Cell} (h : c ∈ fl) : own fl c < 6 + (fl.length : Nat) := by
  have q := List.idxOf_lt_length_of_mem h
  unfold own; omega
theorem own_inj {fl : List Cell} {c d : Cell} (h : c ∈ fl) (h' : d ∈ fl) (e : own fl c = own fl d) : c = d := by
  have e' : fl.idxOf c = fl.idxOf d := by unfold own at e; omega
  have a := List.getElem_idxOf (List.idxOf_lt_length_of_mem h)
  have b := List.getElem_idxOf (List.idxOf_lt_length_of_mem h')
  rw [← a, ← b]
  simp only [e']
theorem mv_some {fl : List Cell} {p q : Pl} {l : Lt} (h : mv fl p l = some q) : bes p.1 l ∈ fl ∧ q = (bes p.1 l, rol p.2.1 l, sw (own fl (bes p.1 l)) (rol p.2.1 l).1 p.2.2) := by
  unfold mv at h
  split at h
  · rename_i m
    exact ⟨m, (Option.some.inj h).symm⟩
  · cases h
theorem mv_pos {fl : List Cell} {p : Pl} {l : Lt} (h : bes p.1 l ∈ fl) : mv fl p l = some (bes p.1 l, rol p.2.1 l, sw (own fl (bes p.1 l)) (rol p.2.1 l).1 p.2.2) := if_pos h
theorem mv_neg {fl : List Cell} {p : Pl} {l : Lt} (h : ¬ bes p.1 l ∈ fl) : mv fl p l = none := if_neg h
theorem mvs_append (fl : List Cell) : ∀ (p : Pl) (r t : List Lt), mvs fl p (r ++ t) = (mvs fl p r).bind fun q => mvs fl q t
  | p, [], t => rfl
  | p, l :: r, t => by
    show (match mv fl p l with | none => none | some q => mvs fl q (r ++ t)) = _
    show _ = (match mv fl p l with | none => none | some q => mvs fl q r).bind _
    cases mv fl p l with
    | none => rfl
    | some q => exact mvs_append fl q r t
theorem lets_append (fl : List Cell) : ∀ (st : Cell × Ly) (r t : List Lt), lets fl st.1 (r ++ t) ↔ lets fl st.1 r ∧ lets fl (sby st r).1 t
  | st, [], t => by simp [lets, sby]
  | st, l :: r, t => by
    show (bes st.1 l ∈ fl ∧ lets fl (bes st.1 l) (r ++ t)) ↔ (bes st.1 l ∈ fl ∧ lets fl (bes st.1 l) r) ∧ _
    have ih := lets_append fl (bes st.1 l, rol st.2 l) r t
    show _ ↔ _ ∧ lets fl (sby (bes st.1 l, rol st.2 l) r).1 t
    constructor
    · intro ⟨a, b⟩
      exact ⟨⟨a, (ih.mp b).1⟩, (ih.mp b).2⟩
    · intro ⟨⟨a, b⟩, c⟩
      exact ⟨a, ih.mpr ⟨b, c⟩⟩
theorem sby_append : ∀ (st : Cell × Ly) (r t : List Lt), sby st (r ++ t) = sby (sby st r) t
  | st, [], t => rfl
  | st, l :: r, t => sby_append (bes st.1 l, rol st.2 l) r t
theorem mvs_lets {fl : List Cell} : ∀ {p q : Pl} {r : List Lt}, mvs fl p r = some q → lets fl p.1 r ∧ (q.1, q.2.1) = sby (p.1, p.2.1) r
  | p, q, [], h => by cases h; exact ⟨trivial, rfl⟩
  | p, q, l :: r, h => by
    unfold mvs at h
    cases e : mv fl p l with
    | none => rw [e] at h; cases h
    | some m =>
      rw [e] at h
      obtain ⟨hm, rfl⟩ := mv_some e
      obtain ⟨a, b⟩ := mvs_lets h
      exact ⟨⟨hm, a⟩, b⟩
theorem lets_mvs {fl : List Cell} : ∀ {p : Pl} {r : List Lt}, lets fl p.1 r → ∃ s, mvs fl p r = some ((sby (p.1, p.2.1) r).1, (sby (p.1, p.2.1) r).2, s)
  | p, [], _ => ⟨p.2.2, rfl⟩
  | p, l :: r, h => by
    obtain ⟨hm, h⟩ := h
    obtain ⟨s, e⟩ := lets_mvs (p := (bes p.1 l, rol p.2.1 l, sw (own fl (bes p.1 l)) (rol p.2.1 l).1 p.2.2)) (r := r) h
    refine ⟨s, ?_⟩
    unfold mvs
    rw [mv_pos hm]
    exact e
/-- a valid place -/
structure VP (fl : List Cell) (p : Pl) : Prop where
  cell : p.1 ∈ fl
  ly : p.2.1 ∈ allLy
  lo : -1 ≤ p.2.2
  hi : p.2.2 < 6 + (fl.length : Nat)
theorem VP.mv {fl : List Cell} {p q : Pl} {l : Lt} (v : VP fl p) (h : mv fl p l = some q) : VP fl q := by
  obtain ⟨hm, rfl⟩ := mv_some h
  have y := rol_mem v.ly l
  have lw := low_all _ y
  have o1 := own_ge fl (bes p.1 l)
  have o2 := own_lt hm
  have h1 := v.lo
  have h2 := v.hi
  refine ⟨hm, y, ?_, ?_⟩
  · show -1 ≤ sw (own fl (bes p.1 l)) (rol p.2.1 l).1 p.2.2
    unfold sw
    split <;> omega
  · show sw (own fl (bes p.1 l)) (rol p.2.1 l).1 p.2.2 < _
    unfold sw
    split <;> omega
theorem VP.mvs {fl : List Cell} : ∀ {p q : Pl} {r : List Lt}, VP fl p → mvs fl p r = some q → VP fl q
  | p, q, [], v, h => by cases h; exact v
  | p, q, l :: r, v, h => by
    unfold TM.mvs at h
    cases e : TM.mv fl p l with
    | none => rw [e] at h; cases h
    | some m =>
      rw [e] at h
      exact VP.mvs (v.mv e) h

/-! ### undoing -/
def und1 (l : Lt) : List Lt := [bk l, l, bk l]
def undo : List Lt → List Lt
  | [] => []
  | l :: r => undo r ++ und1 l
theorem undo_length : ∀ r : List Lt, (undo r).length = 3 * r.length
  | [] => rfl
  | l :: r => by
    show (undo r ++ und1 l).length = _
    rw [List.length_append, undo_length r, List.length_cons]
    show 3 * r.length + 3 = _
    omega
theorem undo_eq (r : List Lt) : undo r = r.reverse.flatMap und1 := by
  induction r with
  | nil => rfl
  | cons l r ih =>
    rw [List.reverse_cons, List.flatMap_append, ← ih]
    simp [undo]
theorem sw4 {a b c d s : Int} (h1 : a ≠ c) (h2 : b ≠ d) (h3 : a ≠ b) (h4 : c ≠ d) (h5 : a ≠ d) (h6 : b ≠ c) : sw c d (sw a b (sw c d (sw a b s))) = s := by
  unfold sw
  repeat' split
  all_goals omega
theorem mv_und1 {fl : List Cell} {p q : Pl} {l : Lt} (hc : p.1 ∈ fl) (hy : p.2.1 ∈ allLy) (h : mv fl p l = some q) : mvs fl q (und1 l) = some p := by
  obtain ⟨hm, rfl⟩ := mv_some h
  obtain ⟨c, y, s⟩ := p
  have y1 := rol_mem hy l
  have n1 := low_all _ hy
  have n2 := low_all _ y1
  have n3 := low_ne hy l
  have o1 := own_ge fl c
  have o2 := own_ge fl (bes c l)
  have o3 : own fl (bes c l) ≠ own fl c := fun e => bes_ne c l (own_inj hm hc e)
  dsimp only at *
  show mvs fl _ [bk l, l, bk l] = _
  have e1 : ∀ t, mv fl (bes c l, rol y l, t) (bk l) = some (c, y, sw (own fl c) y.1 t) := fun t => by
    have q : bes (bes c l) (bk l) = c := bes_bk c l
    have hq : bes (bes c l, rol y l, t).1 (bk l) ∈ fl := by
      show bes (bes c l) (bk l) ∈ fl
      rw [q]; exact hc
    rw [mv_pos hq]
    show some (bes (bes c l) (bk l), rol (rol y l) (bk l), sw (own fl (bes (bes c l) (bk l))) (rol (rol y l) (bk l)).1 t) = _
    rw [q, rol_bk]
  have e2 : ∀ t, mv fl (c, y, t) l = some (bes c l, rol y l, sw (own fl (bes c l)) (rol y l).1 t) := fun t => mv_pos (p := (c, y, t)) hm
  simp only [mvs, e1, e2]
  rw [sw4 (by omega) (by omega) (by omega) (by omega) (by omega) (by omega)]
theorem mvs_undo {fl : List Cell} : ∀ {r : List Lt} {p q : Pl}, VP fl p → mvs fl p r = some q → mvs fl q (undo r) = some p
  | [], p, q, _, h => by cases h; rfl
  | l :: r, p, q, v, h => by
    unfold mvs at h
    cases e : mv fl p l with
    | none => rw [e] at h; cases h
    | some m =>
      rw [e] at h
      show mvs fl q (undo r ++ und1 l) = some p
      rw [mvs_append, mvs_undo (v.mv e) h]
      exact mv_und1 v.cell v.ly e

/-! ### reaching -/
def Rch (fl : List Cell) (p q : Pl) : Prop := ∃ r, mvs fl p r = some q
theorem Rch.refl (fl : List Cell) (p : Pl) : Rch fl p p := ⟨[], rfl⟩
theorem Rch.trans {fl : List Cell} {p q x : Pl} (a : Rch fl p q) (b : Rch fl q x) : Rch fl p x := by
  obtain ⟨r, e⟩ := a
  obtain ⟨t, f⟩ := b
  exact ⟨r ++ t, by rw [mvs_append, e]; exact f⟩
theorem Rch.symm {fl : List Cell} {p q : Pl} (v : VP fl p) (a : Rch fl p q) : Rch fl q p := by
  obtain ⟨r, e⟩ := a
  exact ⟨undo r, mvs_undo v e⟩
theorem Rch.iff {fl : List Cell} {p q : Pl} (v : VP fl p) (a : Rch fl p q) (x : Pl) : Rch fl q x ↔ Rch fl p x := ⟨fun b => a.trans b, fun b => (a.symm v).trans b⟩
theorem Rch.step {fl : List Cell} {p q x : Pl} {l : Lt} (a : Rch fl p q) (h : mv fl q l = some x) : Rch fl p x := a.trans ⟨[l], by simp only [mvs, h]⟩

/-- the spots to which a mark may come -/
def May (fl : List Cell) (p : Pl) (k : Int) : Prop := ∃ q, Rch fl p q ∧ q.2.2 = k
/-- the spots that some row touches -/
def Tch (fl : List Cell) (p : Pl) (k : Int) : Prop := ∃ q l, Rch fl p q ∧ bes q.1 l ∈ fl ∧ (k = (rol q.2.1 l).1 ∨ k = own fl (bes q.1 l))
theorem May.iff {fl : List Cell} {p q : Pl} (v : VP fl p) (a : Rch fl p q) (k : Int) : May fl q k ↔ May fl p k :=
  ⟨fun ⟨x, h, e⟩ => ⟨x, (Rch.iff v a x).mp h, e⟩, fun ⟨x, h, e⟩ => ⟨x, (Rch.iff v a x).mpr h, e⟩⟩
theorem Tch.iff {fl : List Cell} {p q : Pl} (v : VP fl p) (a : Rch fl p q) (k : Int) : Tch fl q k ↔ Tch fl p k :=
  ⟨fun ⟨x, l, h, e⟩ => ⟨x, l, (Rch.iff v a x).mp h, e⟩, fun ⟨x, l, h, e⟩ => ⟨x, l, (Rch.iff v a x).mpr h, e⟩⟩
/-- the spot that no roll moves -/
theorem mvs_no {fl : List Cell} : ∀ {r : List Lt} {p q : Pl}, p.2.1 ∈ allLy → p.2.2 = -1 → mvs fl p r = some q → q.2.2 = -1
  | [], p, q, _, e, h => by cases h; exact e
  | l :: r, p, q, y, e, h => by
    unfold mvs at h
    cases z : mv fl p l with
    | none => rw [z] at h; cases h
    | some m =>
      rw [z] at h
      obtain ⟨hm, rfl⟩ := mv_some z
      refine mvs_no (r := r) (rol_mem y l) ?_ h
      have y1 := low_all _ (rol_mem y l)
      have o1 := own_ge fl (bes p.1 l)
      show sw (own fl (bes p.1 l)) (rol p.2.1 l).1 p.2.2 = -1
      unfold sw
      rw [if_neg (by omega)]
      exact e
/-- two rising lists of the same numbers are one -/
theorem rising_ext : ∀ {l m : List Int}, l.Pairwise (· < ·) → m.Pairwise (· < ·) → (∀ k, k ∈ l ↔ k ∈ m) → l = m
  | [], [], _, _, _ => rfl
  | [], b :: m, _, _, h => absurd ((h b).mpr List.mem_cons_self) (by simp)
  | a :: l, [], _, _, h => absurd ((h a).mp List.mem_cons_self) (by simp)
  | a :: l, b :: m, hl, hm, h => by
    rw [List.pairwise_cons] at hl hm
    have e : a = b := by
      have h1 := (h a).mp List.mem_cons_self
      have h2 := (h b).mpr List.mem_cons_self
      rcases List.mem_cons.mp h1 with e | q
      · exact e
      · rcases List.mem_cons.mp h2 with e | q'
        · exact e.symm
        · have := hl.1 _ q'
          have := hm.1 _ q
          omega
    subst e
    rw [rising_ext hl.2 hm.2 fun k => ?_]
    constructor
    · intro q
      rcases List.mem_cons.mp ((h k).mp (List.mem_cons_of_mem _ q)) with e | q'
      · have := hl.1 _ q
        omega
      · exact q'
    · intro q
      rcases List.mem_cons.mp ((h k).mpr (List.mem_cons_of_mem _ q)) with e | q'
      · have := hm.1 _ q
        omega
      · exact q'

/-! ### marks traded -/
def swp (ms : List Int) (i j : Nat) : List Int := (ms.set i (ms.getD j 0)).set j (ms.getD i 0)
def trd (fl : List Cell) : Cell × Ly → List Lt → List Int → List Int
  | _, [], ms => ms
  | st, l :: r, ms => trd fl (bes st.1 l, rol st.2 l) r (swp ms (own fl (bes st.1 l)).toNat (rol st.2 l).1.toNat)
def ids (n : Nat) : List Int := (List.range n).map fun (i : Nat) => (i : Int)
theorem swp_length (ms : List Int) (i j : Nat) : (swp ms i j).length = ms.length := by unfold swp; rw [List.length_set, List.length_set]
theorem swp_get {ms : List Int} {i j : Nat} (hi : i < ms.length) (hj : j < ms.length) (k : Nat) : (swp ms i j)[k]? = if k = i then ms[j]? else if k = j then ms[i]? else ms[k]? := by
  unfold swp
  rw [List.getElem?_set, List.getElem?_set, List.length_set]
  have gi : ms.getD i 0 = ms[i] := by simp [List.getD, hi]
  have gj : ms.getD j 0 = ms[j] := by simp [List.getD, hj]
  rw [gi, gj]
  by_cases h1 : j = k
  · subst h1
    by_cases h2 : j = i
    · subst h2; simp [hi]
    · simp [hi, hj, h2]
  · by_cases h2 : i = k
    · subst h2; simp [hi, hj, h1]
    · have h1' : ¬ k = j := fun e => h1 e.symm
      have h2' : ¬ k = i := fun e => h2 e.symm
      simp [h1, h2, h1', h2']
theorem swp_nodup {ms : List Int} {i j : Nat} (hi : i < ms.length) (hj : j < ms.length) (h : ms.Nodup) : (swp ms i j).Nodup := by
  rw [List.nodup_iff_pairwise_ne, List.pairwise_iff_getElem]
  intro a b ha0 hb0 hab e0
  have hb : b < ms.length := by rw [swp_length] at hb0; exact hb0
  have e : (swp ms i j)[a]? = (swp ms i j)[b]? := by rw [List.getElem?_eq_getElem ha0, List.getElem?_eq_getElem hb0, e0]
  rw [swp_get hi hj, swp_get hi hj] at e
  have key : ∀ x y : Nat, x < ms.length → y < ms.length → ms[x]? = ms[y]? → x = y := fun x y hx hy q => by
    rw [List.getElem?_eq_getElem hx, List.getElem?_eq_getElem hy] at q
    exact (List.getElem_inj h).mp (Option.some.inj q)
  have ha : a < ms.length := by omega
  have pick : ∀ k : Nat, k < ms.length → ∃ z, z < ms.length ∧ ((k = i ∧ z = j) ∨ (k ≠ i ∧ k = j ∧ z = i) ∨ (k ≠ i ∧ k ≠ j ∧ z = k)) ∧ (if k = i then ms[j]? else if k = j then ms[i]? else ms[k]?) = ms[z]? := fun k hk => by
    by_cases h1 : k = i
    · exact ⟨j, hj, .inl ⟨h1, rfl⟩, if_pos h1⟩
    · by_cases h2 : k = j
      · exact ⟨i, hi, .inr (.inl ⟨h1, h2, rfl⟩), by rw [if_neg h1, if_pos h2]⟩
      · exact ⟨k, hk, .inr (.inr ⟨h1, h2, rfl⟩), by rw [if_neg h1, if_neg h2]⟩
  obtain ⟨x, hx, cx, ex⟩ := pick a ha
  obtain ⟨y, hy, cy, ey⟩ := pick b hb
  rw [ex, ey] at e
  have := key x y hx hy e
  omega
theorem trd_length (fl : List Cell) : ∀ (st : Cell × Ly) (r : List Lt) (ms : List Int), (trd fl st r ms).length = ms.length
  | _, [], _ => rfl
  | st, l :: r, ms => by
    show (trd fl _ r _).length = _
    rw [trd_length, swp_length]
/-- a mark's spot goes as a place's does -/
theorem trd_track {fl : List Cell} : ∀ {r : List Lt} {st : Cell × Ly} {ms : List Int} {p : Nat} {v : Int}, st.2 ∈ allLy → lets fl st.1 r → ms.length = 6 + fl.length → ms.Nodup → ms[p]? = some v →
    (trd fl st r ms).Nodup ∧ ∃ p' : Nat, mvs fl (st.1, st.2, (p : Int)) r = some ((sby st r).1, (sby st r).2, (p' : Int)) ∧ (trd fl st r ms)[p']? = some v
  | [], st, ms, p, v, _, _, _, nd, h => ⟨nd, p, rfl, h⟩
  | l :: r, st, ms, p, v, hy, hl, hn, nd, h => by
    obtain ⟨hm, hl⟩ := hl
    have y1 := rol_mem hy l
    have lw := low_all _ y1
    have o1 := own_ge fl (bes st.1 l)
    have o2 := own_lt hm
    have hp : p < ms.length := (List.getElem?_eq_some_iff.mp h).1
    have i1 : (own fl (bes st.1 l)).toNat < ms.length := by omega
    have i2 : (rol st.2 l).1.toNat < ms.length := by omega
    have nd1 := swp_nodup i1 i2 nd
    have n1 : (swp ms (own fl (bes st.1 l)).toNat (rol st.2 l).1.toNat).length = 6 + fl.length := by rw [swp_length]; exact hn
    have go : ∃ p1 : Nat, sw (own fl (bes st.1 l)) (rol st.2 l).1 (p : Int) = (p1 : Int) ∧ (swp ms (own fl (bes st.1 l)).toNat (rol st.2 l).1.toNat)[p1]? = some v := by
      refine ⟨(sw (own fl (bes st.1 l)) (rol st.2 l).1 (p : Int)).toNat, ?_, ?_⟩
      · unfold sw
        split <;> omega
      · rw [swp_get i1 i2]
        by_cases e1 : (p : Int) = own fl (bes st.1 l)
        · have e0 : sw (own fl (bes st.1 l)) (rol st.2 l).1 (p : Int) = own fl (bes st.1 l) + (rol st.2 l).1 - (p : Int) := if_pos (.inl e1)
          rw [e0]
          have : (own fl (bes st.1 l) + (rol st.2 l).1 - (p : Int)).toNat = (rol st.2 l).1.toNat := by omega
          rw [this, if_neg (by omega), if_pos rfl]
          have : (own fl (bes st.1 l)).toNat = p := by omega
          rw [this]; exact h
        · by_cases e2 : (p : Int) = (rol st.2 l).1
          · have e0 : sw (own fl (bes st.1 l)) (rol st.2 l).1 (p : Int) = own fl (bes st.1 l) + (rol st.2 l).1 - (p : Int) := if_pos (.inr e2)
            rw [e0]
            have : (own fl (bes st.1 l) + (rol st.2 l).1 - (p : Int)).toNat = (own fl (bes st.1 l)).toNat := by omega
            rw [this, if_pos rfl]
            have : (rol st.2 l).1.toNat = p := by omega
            rw [this]; exact h
          · have e0 : sw (own fl (bes st.1 l)) (rol st.2 l).1 (p : Int) = (p : Int) := if_neg (by omega)
            rw [e0, if_neg (by omega), if_neg (by omega)]
            have : ((p : Nat) : Int).toNat = p := by omega
            rw [this]; exact h
    obtain ⟨p1, ep, gp⟩ := go
    obtain ⟨a, p', b, c⟩ := trd_track (r := r) (st := (bes st.1 l, rol st.2 l)) y1 hl n1 nd1 gp
    refine ⟨a, p', ?_, c⟩
    unfold mvs
    rw [mv_pos (p := (st.1, st.2, (p : Int))) hm]
    show mvs fl (bes st.1 l, rol st.2 l, sw (own fl (bes st.1 l)) (rol st.2 l).1 (p : Int)) r = _
    rw [ep]
    exact b
theorem ids_length (n : Nat) : (ids n).length = n := by simp [ids]
theorem ids_get {n i : Nat} (h : i < n) : (ids n)[i]? = some (i : Int) := by simp [ids, h]
theorem ids_nodup (n : Nat) : (ids n).Nodup := by
  unfold ids
  rw [List.nodup_iff_pairwise_ne, List.pairwise_map]
  exact List.Pairwise.imp (fun h e => h (by omega)) (List.nodup_iff_pairwise_ne.mp List.nodup_range)
theorem mem_ids {n : Nat} {k : Int} : k ∈ ids n ↔ 0 ≤ k ∧ k < n := by
  unfold ids
  rw [List.mem_map]
  constructor
  · rintro ⟨i, hi, rfl⟩
    have := List.mem_range.mp hi
    omega
  · rintro ⟨a, b⟩
    exact ⟨k.toNat, List.mem_range.mpr (by omega), by omega⟩
/-- the exchange of a row -/
def exch (fl : List Cell) (st : Cell × Ly) (r : List Lt) : List Int :=
  (List.range (6 + fl.length)).map fun (s : Nat) => (((trd fl st r (ids (6 + fl.length))).idxOf (s : Int) : Nat) : Int)
theorem idxOf_at {l : List Int} {i : Nat} {v : Int} (nd : l.Nodup) (h : l[i]? = some v) : l.idxOf v = i := by
  obtain ⟨hi, e⟩ := List.getElem?_eq_some_iff.mp h
  have hm : v ∈ l := e ▸ List.getElem_mem hi
  have q := List.getElem_idxOf (List.idxOf_lt_length_of_mem hm)
  exact (List.getElem_inj nd).mp (q.trans e.symm)
theorem exch_length (fl : List Cell) (st : Cell × Ly) (r : List Lt) : (exch fl st r).length = 6 + fl.length := by simp [exch]
/-- what the exchange tells of a spot is where its place comes to -/
theorem exch_get {fl : List Cell} {st : Cell × Ly} {r : List Lt} {s : Int} (hy : st.2 ∈ allLy) (hl : lets fl st.1 r) (h0 : 0 ≤ s) (h1 : s < 6 + (fl.length : Nat)) :
    ∃ t : Int, (exch fl st r)[s.toNat]? = some t ∧ mvs fl (st.1, st.2, s) r = some ((sby st r).1, (sby st r).2, t) := by
  have hs : s.toNat < 6 + fl.length := by omega
  obtain ⟨nd, p', a, b⟩ := trd_track (r := r) (st := st) (p := s.toNat) (v := s) hy hl (ids_length _) (ids_nodup _) (by rw [ids_get hs]; congr 1; omega)
  refine ⟨(p' : Int), ?_, ?_⟩
  · unfold exch
    rw [List.getElem?_map, List.getElem?_range hs]
    have e : ((s.toNat : Nat) : Int) = s := by omega
    show some (((trd fl st r (ids (6 + fl.length))).idxOf ((s.toNat : Nat) : Int) : Nat) : Int) = _
    rw [e, idxOf_at nd b]
  · have e : ((s.toNat : Nat) : Int) = s := by omega
    rw [e] at a
    exact a
theorem mem_trd {fl : List Cell} {st : Cell × Ly} {r : List Lt} (hy : st.2 ∈ allLy) (hl : lets fl st.1 r) {s : Nat} (hs : s < 6 + fl.length) : (s : Int) ∈ trd fl st r (ids (6 + fl.length)) := by
  obtain ⟨nd, p', a, b⟩ := trd_track (r := r) (st := st) (p := s) (v := (s : Int)) hy hl (ids_length _) (ids_nodup _) (ids_get hs)
  exact List.mem_of_getElem? b
end TM
end
/-! ## TBfs -/
section
namespace TM
/-! ### lists without repetition -/
theorem nodup_le {α : Type} [DecidableEq α] : ∀ {l m : List α}, l.Nodup → (∀ x ∈ l, x ∈ m) → l.length ≤ m.length
  | [], m, _, _ => Nat.zero_le _
  | a :: l, m, nd, h => by
    rw [List.nodup_cons] at nd
    have ha : a ∈ m := h a List.mem_cons_self
    have ih := nodup_le (l := l) (m := m.erase a) nd.2 fun x hx => (List.mem_erase_of_ne (fun e => nd.1 (by rw [← e]; exact hx))).mpr (h x (List.mem_cons_of_mem _ hx))
    have e := List.length_erase_of_mem ha
    have : 0 < m.length := List.length_pos_of_mem ha
    rw [List.length_cons]
    omega
/-! ### the search, round by round -/
abbrev Fd := List (Pl × List Lt)
abbrev kys (F : Fd) : List Pl := F.map (·.1)
/-- what is found: each place once, each with a row that leads there -/
structure Bf (fl : List Cell) (p0 : Pl) (F : Fd) : Prop where
  nd : (kys F).Nodup
  at0 : p0 ∈ kys F
  ok : ∀ x ∈ F, mvs fl p0 x.2 = some x.1 ∧ x.2.length < F.length
def Cls (fl : List Cell) (F : Fd) (k : Pl) : Prop := ∀ l q, mv fl k l = some q → q ∈ kys F
structure InW (fl : List Cell) (p0 : Pl) (F : Fd) (W : List Pl) : Prop where
  bf : Bf fl p0 F
  sub : ∀ k ∈ W, k ∈ kys F
  cl : ∀ k ∈ kys F, k ∈ W ∨ Cls fl F k
/-- within a round: R is left to be looked at, L was found -/
structure InI (fl : List Cell) (p0 : Pl) (n0 : Nat) (F : Fd) (L R : List Pl) : Prop where
  bf : Bf fl p0 F
  subL : ∀ k ∈ L, k ∈ kys F
  subR : ∀ k ∈ R, k ∈ kys F
  cl : ∀ k ∈ kys F, k ∈ L ∨ k ∈ R ∨ Cls fl F k
  len : F.length = n0 + L.length
/-- within a place's letters: those of ds are done -/
structure InL (fl : List Cell) (p0 : Pl) (n0 : Nat) (F : Fd) (L : List Pl) (one : Pl) (ds : List Lt) (R : List Pl) : Prop where
  bf : Bf fl p0 F
  subL : ∀ k ∈ L, k ∈ kys F
  subR : ∀ k ∈ R, k ∈ kys F
  sub1 : one ∈ kys F
  cl : ∀ k ∈ kys F, k ∈ L ∨ k ∈ R ∨ Cls fl F k ∨ k = one
  dn : ∀ l ∈ ds, ∀ q, mv fl one l = some q → q ∈ kys F
  len : F.length = n0 + L.length
section
variable {fl : List Cell} {p0 one q : Pl} {n0 : Nat} {F : Fd} {L R W : List Pl} {ds : List Lt} {l : Lt} {r : List Lt}
theorem InW.start (fl : List Cell) (p0 : Pl) : InW fl p0 [(p0, [])] [p0] where
  bf := ⟨List.nodup_cons.mpr ⟨List.not_mem_nil, List.nodup_nil⟩, List.mem_cons_self, fun x hx => by
    have e : x = (p0, []) := by simpa using hx
    subst e
    exact ⟨rfl, Nat.zero_lt_one⟩⟩
  sub := fun k hk => hk
  cl := fun k hk => .inl hk
theorem InW.inI (h : InW fl p0 F W) : InI fl p0 F.length F [] W :=
  ⟨h.bf, (fun _ hk => nomatch hk), h.sub, fun k hk => .inr (h.cl k hk), rfl⟩
theorem InI.enter (h : InI fl p0 n0 F L (one :: R)) : InL fl p0 n0 F L one [] R := by
  refine ⟨h.bf, h.subL, fun k hk => h.subR k (List.mem_cons_of_mem _ hk), h.subR one List.mem_cons_self, fun k hk => ?_, (fun _ hl => nomatch hl), h.len⟩
  rcases h.cl k hk with a | a | a
  · exact .inl a
  · rcases List.mem_cons.mp a with e | a
    · exact .inr (.inr (.inr e))
    · exact .inr (.inl a)
  · exact .inr (.inr (.inl a))
theorem InL.none (h : InL fl p0 n0 F L one ds R) (e : mv fl one l = .none) : InL fl p0 n0 F L one (ds ++ [l]) R :=
  ⟨h.bf, h.subL, h.subR, h.sub1, h.cl, (fun l' hl q hq => by
      rcases List.mem_append.mp hl with a | a
      · exact h.dn l' a q hq
      · have : l' = l := by simpa using a
        subst this
        rw [e] at hq
        cases hq), h.len⟩
theorem InL.old (h : InL fl p0 n0 F L one ds R) (e : mv fl one l = some q) (hq : q ∈ kys F) : InL fl p0 n0 F L one (ds ++ [l]) R :=
  ⟨h.bf, h.subL, h.subR, h.sub1, h.cl, (fun l' hl x hx => by
      rcases List.mem_append.mp hl with a | a
      · exact h.dn l' a x hx
      · have : l' = l := by simpa using a
        subst this
        rw [e] at hx
        cases hx
        exact hq), h.len⟩
theorem InL.new (h : InL fl p0 n0 F L one ds R) (e : mv fl one l = some q) (hq : q ∉ kys F) (hr : (one, r) ∈ F) : InL fl p0 n0 (F ++ [(q, r ++ [l])]) (L ++ [q]) one (ds ++ [l]) R := by
  have ek : kys (F ++ [(q, r ++ [l])]) = kys F ++ [q] := by simp [kys]
  have up : ∀ k, k ∈ kys F → k ∈ kys (F ++ [(q, r ++ [l])]) := fun k hk => by rw [ek]; exact List.mem_append_left _ hk
  have upC : ∀ k, Cls fl F k → Cls fl (F ++ [(q, r ++ [l])]) k := fun k hk l' x hx => up _ (hk l' x hx)
  have hn : (F ++ [(q, r ++ [l])]).length = F.length + 1 := by simp
  refine ⟨⟨?_, up _ h.bf.at0, fun x hx => ?_⟩, fun k hk => ?_, fun k hk => up _ (h.subR k hk), up _ h.sub1, fun k hk => ?_, fun l' hl x hx => ?_, ?_⟩
  · rw [ek]
    refine List.nodup_append.mpr ⟨h.bf.nd, List.nodup_cons.mpr ⟨List.not_mem_nil, List.nodup_nil⟩, fun a ha b hb => ?_⟩
    have : b = q := by simpa using hb
    subst this
    intro z
    exact hq (z ▸ ha)
  · rw [hn]
    rcases List.mem_append.mp hx with a | a
    · obtain ⟨u, v⟩ := h.bf.ok x a
      exact ⟨u, by omega⟩
    · have : x = (q, r ++ [l]) := by simpa using a
      subst this
      obtain ⟨u, v⟩ := h.bf.ok _ hr
      refine ⟨?_, ?_⟩
      · show mvs fl p0 (r ++ [l]) = some q
        rw [mvs_append, u]
        show mvs fl one [l] = some q
        simp only [mvs, e]
      · show (r ++ [l]).length < _
        have v' : r.length < F.length := v
        simp
        omega
  · rw [ek]
    rcases List.mem_append.mp hk with a | a
    · exact List.mem_append_left _ (h.subL k a)
    · exact List.mem_append_right _ a
  · rw [ek] at hk
    rcases List.mem_append.mp hk with a | a
    · rcases h.cl k a with b | b | b | b
      · exact .inl (List.mem_append_left _ b)
      · exact .inr (.inl b)
      · exact .inr (.inr (.inl (upC k b)))
      · exact .inr (.inr (.inr b))
    · exact .inl (List.mem_append_right _ a)
  · rcases List.mem_append.mp hl with a | a
    · exact up _ (h.dn l' a x hx)
    · have : l' = l := by simpa using a
      subst this
      rw [e] at hx
      cases hx
      rw [ek]
      exact List.mem_append_right _ List.mem_cons_self
  · rw [hn, h.len, List.length_append]
    simp
    omega
theorem InL.out (h : InL fl p0 n0 F L one lts R) : InI fl p0 n0 F L R := by
  refine ⟨h.bf, h.subL, h.subR, fun k hk => ?_, h.len⟩
  rcases h.cl k hk with b | b | b | b
  · exact .inl b
  · exact .inr (.inl b)
  · exact .inr (.inr b)
  · subst b
    exact .inr (.inr fun l q hq => h.dn l (mem_lts l) q hq)
theorem InI.out (h : InI fl p0 n0 F L []) : InW fl p0 F L := by
  refine ⟨h.bf, h.subL, fun k hk => ?_⟩
  rcases h.cl k hk with b | b | b
  · exact .inl b
  · exact nomatch b
  · exact .inr b
theorem InW.closed (h : InW fl p0 F []) : ∀ (r : List Lt) (k q : Pl), k ∈ kys F → mvs fl k r = some q → q ∈ kys F
  | [], k, q, hk, e => by cases e; exact hk
  | l :: r, k, q, hk, e => by
    unfold mvs at e
    cases z : mv fl k l with
    | none => rw [z] at e; cases e
    | some m =>
      rw [z] at e
      rcases h.cl k hk with b | b
      · exact nomatch b
      · exact InW.closed h r m q (b l m z) e
/-- at the end: all that is reached, each once -/
theorem InW.reach (h : InW fl p0 F []) (q : Pl) : q ∈ kys F ↔ Rch fl p0 q := by
  constructor
  · intro hq
    obtain ⟨x, hx, rfl⟩ := List.mem_map.mp hq
    exact ⟨x.2, (h.bf.ok x hx).1⟩
  · rintro ⟨r, e⟩
    exact h.closed r p0 q h.bf.at0 e
/-- all valid places -/
def univ (fl : List Cell) : List Pl := fl.flatMap fun c => allLy.flatMap fun y => (List.range (7 + fl.length)).map fun (i : Nat) => (c, y, (i : Int) - 1)
theorem mem_univ {p : Pl} (v : VP fl p) : p ∈ univ fl := by
  have h1 := v.lo
  have h2 := v.hi
  refine List.mem_flatMap.mpr ⟨p.1, v.cell, List.mem_flatMap.mpr ⟨p.2.1, v.ly, List.mem_map.mpr ⟨(p.2.2 + 1).toNat, List.mem_range.mpr (by omega), ?_⟩⟩⟩
  have : ((p.2.2 + 1).toNat : Int) - 1 = p.2.2 := by omega
  rw [this]
theorem flatMap_len {α β : Type} (n : Nat) (f : α → List β) : ∀ l : List α, (∀ x ∈ l, (f x).length = n) → (l.flatMap f).length = l.length * n
  | [], _ => by simp
  | a :: l, h => by
    rw [List.flatMap_cons, List.length_append, h a List.mem_cons_self, flatMap_len n f l fun x hx => h x (List.mem_cons_of_mem _ hx), List.length_cons, Nat.succ_mul]
    omega
theorem univ_length (fl : List Cell) : (univ fl).length = fl.length * (24 * (7 + fl.length)) :=
  flatMap_len _ _ fl fun c _ => flatMap_len _ _ allLy fun y _ => by rw [List.length_map, List.length_range]
theorem Bf.le (h : Bf fl p0 F) (v : VP fl p0) (hl : fl.length ≤ 5) : F.length ≤ 1440 := by
  have a : (kys F).length ≤ (univ fl).length := nodup_le h.nd fun k hk => by
    obtain ⟨x, hx, rfl⟩ := List.mem_map.mp hk
    exact mem_univ (v.mvs (h.ok x hx).1)
  rw [List.length_map, univ_length] at a
  have b : fl.length * (24 * (7 + fl.length)) ≤ 5 * (24 * (7 + 5)) := Nat.mul_le_mul hl (Nat.mul_le_mul_left _ (by omega))
  omega
theorem Bf.vp (h : Bf fl p0 F) (v : VP fl p0) : ∀ k ∈ kys F, VP fl k := fun k hk => by
  obtain ⟨x, hx, rfl⟩ := List.mem_map.mp hk
  exact v.mvs (h.ok x hx).1
end

/-! ### floors that are drawn -/
def Grd (c : Cell) : Prop := 0 ≤ c.1 ∧ c.1 ≤ 3 ∧ 0 ≤ c.2 ∧ c.2 ≤ 3
def grid : List Cell := [(0, 0), (0, 1), (0, 2), (0, 3), (1, 0), (1, 1), (1, 2), (1, 3), (2, 0), (2, 1), (2, 2), (2, 3), (3, 0), (3, 1), (3, 2), (3, 3)]
theorem grid_nodup : grid.Nodup := by decide
/-- a lot of cells that is not the whole grid has a neighbour in the grid -/
theorem near_some {S : List Cell} (hne : S ≠ []) (hg : ∀ c ∈ S, Grd c) (hl : S.length ≤ 15) : ∃ c ∈ S, ∃ l, bes c l ∉ S ∧ Grd (bes c l) := by
  refine Classical.byContradiction fun hno => ?_
  have cl : ∀ c, c ∈ S → ∀ l, Grd (bes c l) → bes c l ∈ S := fun c hc l g => Classical.byContradiction fun hn => hno ⟨c, hc, l, hn, g⟩
  have goW : ∀ a b : Int, (a + 1, b) ∈ S → 0 ≤ a → (a, b) ∈ S := fun a b h h0 => by
    obtain ⟨g1, g2, g3, g4⟩ := hg _ h
    have e : bes (a + 1, b) .w = (a, b) := by simp [bes, stp]; omega
    have := cl _ h .w (by rw [e]; unfold Grd; dsimp only at *; omega)
    rwa [e] at this
  have goE : ∀ a b : Int, (a, b) ∈ S → a + 1 ≤ 3 → (a + 1, b) ∈ S := fun a b h h0 => by
    obtain ⟨g1, g2, g3, g4⟩ := hg _ h
    have e : bes (a, b) .e = (a + 1, b) := by simp [bes, stp]
    have := cl _ h .e (by rw [e]; unfold Grd; dsimp only at *; omega)
    rwa [e] at this
  have goN : ∀ a b : Int, (a, b) ∈ S → b + 1 ≤ 3 → (a, b + 1) ∈ S := fun a b h h0 => by
    obtain ⟨g1, g2, g3, g4⟩ := hg _ h
    have e : bes (a, b) .n = (a, b + 1) := by simp [bes, stp]
    have := cl _ h .n (by rw [e]; unfold Grd; dsimp only at *; omega)
    rwa [e] at this
  have goS : ∀ a b : Int, (a, b + 1) ∈ S → 0 ≤ b → (a, b) ∈ S := fun a b h h0 => by
    obtain ⟨g1, g2, g3, g4⟩ := hg _ h
    have e : bes (a, b + 1) .s = (a, b) := by simp [bes, stp]; omega
    have := cl _ h .s (by rw [e]; unfold Grd; dsimp only at *; omega)
    rwa [e] at this
  obtain ⟨c, hc⟩ : ∃ c, c ∈ S := by
    cases S with
    | nil => exact absurd rfl hne
    | cons c r => exact ⟨c, List.mem_cons_self⟩
  obtain ⟨a, b⟩ := c
  obtain ⟨g1, g2, g3, g4⟩ := hg _ hc
  dsimp only at g1 g2 g3 g4
  have w0 : ∀ (n : Nat) (x y : Int), x = n → (x, y) ∈ S → (0, y) ∈ S := fun n => by
    induction n with
    | zero => intro x y e h; rw [e] at h; exact h
    | succ n ih =>
      intro x y e h
      have : (((n : Int) + 1, y) : Cell) ∈ S := by rw [e] at h; exact h
      exact ih n y rfl (goW _ _ this (by omega))
  have s0 : ∀ (n : Nat) (x y : Int), y = n → (x, y) ∈ S → (x, 0) ∈ S := fun n => by
    induction n with
    | zero => intro x y e h; rw [e] at h; exact h
    | succ n ih =>
      intro x y e h
      have : ((x, (n : Int) + 1) : Cell) ∈ S := by rw [e] at h; exact h
      exact ih x n rfl (goS _ _ this (by omega))
  have z : ((0, 0) : Cell) ∈ S := s0 b.toNat 0 b (by omega) (w0 a.toNat a b (by omega) hc)
  have e0 : ∀ n : Nat, n ≤ 3 → (((n : Int), 0) : Cell) ∈ S := fun n => by
    induction n with
    | zero => intro _; exact z
    | succ n ih => intro h; exact goE _ _ (ih (by omega)) (by omega)
  have n0 : ∀ (m n : Nat), n ≤ 3 → m ≤ 3 → (((n : Int), (m : Int)) : Cell) ∈ S := fun m => by
    induction m with
    | zero => intro n h _; exact e0 n h
    | succ m ih => intro n h h'; exact goN _ _ (ih n h (by omega)) (by omega)
  have all : ∀ x ∈ grid, x ∈ S := fun x hx => by
    have g : x.1 = (x.1.toNat : Int) ∧ x.2 = (x.2.toNat : Int) ∧ x.1.toNat ≤ 3 ∧ x.2.toNat ≤ 3 := by
      revert x
      decide
    have := n0 x.2.toNat x.1.toNat g.2.2.1 g.2.2.2
    rw [← g.1, ← g.2.1] at this
    exact this
  have := nodup_le grid_nodup all
  have : grid.length = 16 := rfl
  omega
/-- cells in the order of tuples -/
def clt (c d : Cell) : Prop := c.1 < d.1 ∨ (c.1 = d.1 ∧ c.2 < d.2)
/-- a floor of the law -/
structure FlOk (fl : List Cell) : Prop where
  ne : 1 ≤ fl.length
  le : fl.length ≤ 5
  rng : ∀ c ∈ fl, Grd c
  srt : fl.Pairwise clt
theorem FlOk.nodup {fl : List Cell} (h : FlOk fl) : fl.Nodup := by
  rw [List.nodup_iff_pairwise_ne]
  refine List.Pairwise.imp (fun {a b} hab e => ?_) h.srt
  subst e
  unfold clt at hab
  omega
/-- the letters that lead on, in order -/
def free (fl : List Cell) (c : Cell) : List Lt := lts.filter fun l => decide (bes c l ∈ fl)
theorem mem_free {fl : List Cell} {c : Cell} {l : Lt} : l ∈ free fl c ↔ bes c l ∈ fl := by
  unfold free
  rw [List.mem_filter]
  exact ⟨fun h => of_decide_eq_true h.2, fun h => ⟨mem_lts l, decide_eq_true h⟩⟩
end TM
end
/-! ## TPd -/
section
/-! Places as keys: dicts whose keys are ((column, row), (low, north, east), spot). -/
namespace TM
open PySem PySem.Spec PyProof.Rows L2

/-! ### cells, lyings, stands, places in the abstract heap -/
def CellAt (H : Hp) (a : Addr) (c : Cell) : Prop := H a = some (.tup [.int c.1, .int c.2])
def LyAt (H : Hp) (a : Addr) (y : Ly) : Prop := H a = some (.tup [.int y.1, .int y.2.1, .int y.2.2])
def StAt (H : Hp) (a : Addr) (st : Cell × Ly) : Prop := ∃ c l, H a = some (.tup [.ref c, .ref l]) ∧ CellAt H c st.1 ∧ LyAt H l st.2
def PlAt (H : Hp) (a : Addr) (p : Pl) : Prop := ∃ c l, H a = some (.tup [.ref c, .ref l, .int p.2.2]) ∧ CellAt H c p.1 ∧ LyAt H l p.2.1
/-- all tuples stay -/
def TupS (H H' : Hp) : Prop := ∀ b xs, H b = some (.tup xs) → H' b = some (.tup xs)
section
variable {H H' : Hp} {a : Addr}
theorem PlAt.mono {p : Pl} (t : TupS H H') (h : PlAt H a p) : PlAt H' a p := let ⟨c, l, h1, h2, h3⟩ := h; ⟨c, l, t _ _ h1, t _ _ h2, t _ _ h3⟩
theorem StAt.mono {p : Cell × Ly} (t : TupS H H') (h : StAt H a p) : StAt H' a p := let ⟨c, l, h1, h2, h3⟩ := h; ⟨c, l, t _ _ h1, t _ _ h2, t _ _ h3⟩
theorem TupS.upd {H : Hp} {a : Addr} {o : HO} (h : ∀ xs, H a ≠ some (.tup xs)) : TupS H (upd H a o) := fun b xs e => by
  rw [upd_ne (fun z => h xs (by rw [← z]; exact e))]
  exact e
theorem TupS.new {H : Hp} {a : Addr} {o : HO} (h : H a = none) : TupS H (L2.upd H a o) := TupS.upd fun xs e => by rw [h] at e; cases e
theorem TupS.trans {H H1 H2 : Hp} (a : TupS H H1) (b : TupS H1 H2) : TupS H H2 := fun c xs e => b c xs (a c xs e)
end

def nk (p : Pl) : NestedKey := .tup [.tup [.num p.1.1, .num p.1.2], .tup [.num p.2.1.1, .num p.2.1.2.1, .num p.2.1.2.2], .num p.2.2]
theorem nk_inj {p q : Pl} (e : nk p = nk q) : p = q := by
  obtain ⟨⟨a, b⟩, ⟨c, d, f⟩, g⟩ := p
  obtain ⟨⟨a', b'⟩, ⟨c', d', f'⟩, g'⟩ := q
  simp only [nk, NestedKey.tup.injEq, List.cons.injEq, NestedKey.num.injEq, and_true] at e
  obtain ⟨⟨rfl, rfl⟩, ⟨rfl, rfl, rfl⟩, rfl⟩ := e
  rfl
theorem nk_depth (p : Pl) : (nk p).depth ≤ 8 := by simp [nk, NestedKey.depth, NestedKey.depthAll]
section
variable {P : Program} {w : World} {H : Hp} {h : Heap} {a : Addr}
theorem tup_obj {xs : List V} (ok : HOk P w H h) (e : H a = some (.tup xs)) : ∃ (its : List Value) (o : Obj) (n : Nat), Vals xs its ∧ h.get? a = some o ∧ o.cls = .type "tuple" ∧ o.data = .seq its.toArray n := by
  obtain ⟨_, its, rv, o, h1, h2, n, h3⟩ := (show ObjOk P w H h a (.tup xs) from ok a _ e)
  exact ⟨its, o, n, rv, h1, h2, h3⟩
theorem int_is {i : Int} {u : Value} (r : RelV (.int i) u) : NestedIs h (.num i) u := by
  obtain ⟨t, rfl⟩ := r
  exact .int i t
theorem cell_is {c : Cell} (ok : HOk P w H h) (e : CellAt H a c) : NestedIs h (.tup [.num c.1, .num c.2]) (.ref a) := by
  obtain ⟨its, o, n, rv, h1, h2, h3⟩ := tup_obj ok e
  cases rv with
  | cons r1 t1 =>
    cases t1 with
    | cons r2 t2 =>
      cases t2
      exact .tup h1 h2 h3 (by simpa using NestedAll.cons (int_is r1) (.cons (int_is r2) .nil))
theorem ly_is {y : Ly} (ok : HOk P w H h) (e : LyAt H a y) : NestedIs h (.tup [.num y.1, .num y.2.1, .num y.2.2]) (.ref a) := by
  obtain ⟨its, o, n, rv, h1, h2, h3⟩ := tup_obj ok e
  cases rv with
  | cons r1 t1 =>
    cases t1 with
    | cons r2 t2 =>
      cases t2 with
      | cons r3 t3 =>
        cases t3
        exact .tup h1 h2 h3 (by simpa using NestedAll.cons (int_is r1) (.cons (int_is r2) (.cons (int_is r3) .nil)))
theorem PlAt.is {p : Pl} (ok : HOk P w H h) (e : PlAt H a p) : (nestedKind P w).is h (nk p) a := by
  obtain ⟨c, l, e0, e1, e2⟩ := e
  obtain ⟨its, o, n, rv, h1, h2, h3⟩ := tup_obj ok e0
  refine ⟨?_, nk_depth p⟩
  cases rv with
  | cons r1 t1 =>
    cases t1 with
    | cons r2 t2 =>
      cases t2 with
      | cons r3 t3 =>
        cases t3
        cases r1
        cases r2
        exact .tup h1 h2 h3 (by simpa using NestedAll.cons (cell_is ok e1) (.cons (ly_is ok e2) (.cons (int_is r3) .nil)))
end

/-! ### a dict of places -/
/-- an entry: the place, where its tuple stands, the value -/
abbrev Ent := Pl × Addr × V
abbrev EntR (x : Ent) (u : NestedKey × Addr × Value) : Prop := u.1 = nk x.1 ∧ u.2.1 = x.2.1 ∧ RelV x.2.2 u.2.2
def PDphi (P : Program) (w : World) (d : Addr) (xs : List Ent) (h : Heap) : Prop :=
  xs.length ≤ sizeLine ∧ (d == sysModules) = false ∧ ∃ us : List (NestedKey × Addr × Value), Paired EntR xs us ∧
    ∃ o es ep, h.get? d = some o ∧ o.ExactDict ∧ o.data = .dict es ep ∧ es.toList = us.map (entryOfKey (nestedKind P w)) ∧ (us.map (·.1)).Nodup
def PD (P : Program) (w : World) (d : Addr) (xs : List Ent) : HO := .ext (PDphi P w d xs)
def PKeys (H : Hp) (xs : List Ent) : Prop := ∀ x ∈ xs, PlAt H x.2.1 x.1
theorem PKeys.mono {H H' : Hp} {xs : List Ent} (t : TupS H H') (k : PKeys H xs) : PKeys H' xs := fun x hx => (k x hx).mono t
/-- what stands at a place -/
def lookE (xs : List Ent) (p : Pl) : Option V := (xs.find? fun x => decide (x.1 = p)).map (·.2.2)
section
variable {P : Program} {w : World} {H : Hp} {h : Heap} {d : Addr} {xs : List Ent}
theorem PDphi.ok (x : PDphi P w d xs h) : ObjOk P w H h d (PD P w d xs) := by
  obtain ⟨z, y, us, r, o, es, ep, ho, c⟩ := x
  refine ⟨⟨z, y, us, r, o, es, ep, ho, c⟩, ⟨o, ho⟩, fun h1 h2 q k => ?_⟩
  obtain ⟨z, y, us, r, o, es, ep, ho, c⟩ := q
  exact ⟨z, y, us, r, o, es, ep, k _ ho, c⟩
theorem pd_phi (ok : HOk P w H h) (e : Rd H d (PD P w d xs)) : PDphi P w d xs h := (show ObjOk P w H h d (PD P w d xs) from e.ok ok).1
theorem pd_of (ok : HOk P w H h) (e : Rd H d (PD P w d xs)) (k : PKeys H xs) : xs.length ≤ sizeLine ∧ (d == sysModules) = false ∧ ∃ us, Paired EntR xs us ∧ h.DictOfH (nestedKind P w) d us := by
  obtain ⟨z, y, us, r, o, es, ep, ho, hc, hd, he, hn⟩ := pd_phi ok e
  refine ⟨z, y, us, r, o, es, ep, ho, hc, hd, he, fun u hu => ?_, hn⟩
  have all : ∀ {l : List Ent} {m : List (NestedKey × Addr × Value)}, Paired EntR l m → (∀ x ∈ l, PlAt H x.2.1 x.1) → ∀ u ∈ m, (nestedKind P w).is h u.1 u.2.1 := by
    intro l m q
    induction q with
    | nil => intro _ u hu; exact nomatch hu
    | @cons a b as bs ab t ih =>
      intro kk u hu
      rcases List.mem_cons.mp hu with e | hu
      · subst e
        obtain ⟨e1, e2, _⟩ := ab
        rw [e1, e2]
        exact (kk a List.mem_cons_self).is ok
      · exact ih (fun x hx => kk x (List.mem_cons_of_mem _ hx)) u hu
  exact all r k u hu
/-- the abstract look-up, and the machine's -/
theorem look_rel {us : List (NestedKey × Addr × Value)} (r : Paired EntR xs us) (p : Pl) : RelO (lookE xs p) ((atKey us (nk p)).map (·.2)) := by
  induction r with
  | nil => exact True.intro
  | @cons x u as bs ab t ih =>
    obtain ⟨e1, e2, e3⟩ := ab
    by_cases e : x.1 = p
    · have e' : u.1 = nk p := by rw [e1, e]
      have a : lookE (x :: as) p = some x.2.2 := by simp [lookE, List.find?_cons, e]
      have b : atKey (u :: bs) (nk p) = some u.2 := by simp [atKey, List.find?_cons, e']
      rw [a, b]
      exact e3
    · have e' : ¬ u.1 = nk p := fun z => e (nk_inj (e1.symm.trans z))
      have a : lookE (x :: as) p = lookE as p := by simp [lookE, List.find?_cons, e]
      have b : atKey (u :: bs) (nk p) = atKey bs (nk p) := by simp [atKey, List.find?_cons, e']
      rw [a, b]
      exact ih
theorem look_none {p : Pl} : lookE xs p = none ↔ p ∉ xs.map (·.1) := by
  unfold lookE
  rw [Option.map_eq_none_iff, List.find?_eq_none]
  constructor
  · intro h hm
    obtain ⟨x, hx, e⟩ := List.mem_map.mp hm
    exact h x hx (decide_eq_true e)
  · intro h x hx e
    exact h (List.mem_map.mpr ⟨x, hx, of_decide_eq_true e⟩)
theorem look_some {p : Pl} {b : Addr} {v : V} (nd : (xs.map (·.1)).Nodup) (h : (p, b, v) ∈ xs) : lookE xs p = some v := by
  unfold lookE
  induction xs with
  | nil => exact nomatch h
  | cons x xs ih =>
    rw [List.map_cons, List.nodup_cons] at nd
    by_cases e : x.1 = p
    · rcases List.mem_cons.mp h with q | q
      · subst q
        simp [List.find?_cons]
      · exact absurd (List.mem_map.mpr ⟨_, q, e.symm⟩) nd.1
    · rcases List.mem_cons.mp h with q | q
      · subst q
        exact absurd rfl e
      · simp only [List.find?_cons, decide_eq_false e]
        exact ih nd.2 q
end

/-! ### the operations, by values -/
section
variable {X : Cx}
theorem atKey_isSome {us : List (NestedKey × Addr × Value)} {xs : List Ent} (r : Paired EntR xs us) (p : Pl) : (atKey us (nk p)).isSome = decide (p ∈ xs.map (·.1)) := by
  have q := (look_rel r p).isSome_eq
  rw [Option.isSome_map] at q
  rw [← q]
  by_cases e : p ∈ xs.map (·.1)
  · rw [decide_eq_true e]
    cases z : lookE xs p with
    | none => exact absurd e (look_none.mp z)
    | some _ => rfl
  · rw [decide_eq_false e, look_none.mpr e]
    rfl
/-- p not in d -/
def rPNotIn (X : Cx) : R2 := fun x y H Q => ∃ b d xs p, x = .ref b ∧ y = .ref d ∧ Rd H d (PD X.prog X.w d xs) ∧ PKeys H xs ∧ PlAt H b p ∧ Q (.bl (!decide (p ∈ xs.map (·.1)))) H
theorem op_pNotIn (hu : X.A.units + 9 < cLine) : OpR X (compareOp .NotIn) (rPNotIn X) := by
  intro pins s σ H x y v u Q I rx ry h
  obtain ⟨b, d, xs, p, rfl, rfl, hd, hk, hb, q⟩ := h
  cases rx
  cases ry
  obtain ⟨z, lo, us, r, dd⟩ := pd_of I.hok hd hk
  refine wpAny_notIn_heap (knd := nestedKind X.prog X.w) (by show X.A.units + 1 + 8 < cLine; omega) (hb.is I.hok) lo dd ?_
  rw [atKey_isSome r p]
  exact ⟨.bl _, H, I.tok _, rfl, q⟩
/-- d[p], there -/
def rPGet (X : Cx) : R2 := fun x y H Q => ∃ d b xs p v, x = .ref d ∧ y = .ref b ∧ Rd H d (PD X.prog X.w d xs) ∧ PKeys H xs ∧ PlAt H b p ∧ lookE xs p = some v ∧ Q v H
theorem ix_pd (hu : X.A.units + 9 < cLine) : IxR X (rPGet X) := by
  intro value slice pins s σ H x y v u Q I rx ry h hs
  obtain ⟨d, b, xs, p, z, rfl, rfl, hd, hk, hb, hl, q⟩ := h
  cases rx
  cases ry
  obtain ⟨_, lo, us, r, dd⟩ := pd_of I.hok hd hk
  obtain ⟨w', hw, rw'⟩ := RelO.some_of (v := z) (o := (atKey us (nk p)).map (·.2)) (by rw [← hl]; exact look_rel r p)
  obtain ⟨pr, hp, e2⟩ := Option.map_eq_some_iff.mp hw
  have fin : ∀ t, EP X pins σ Q w' { s with toks := t } := fun t => ⟨z, H, I.tok _, rw', q⟩
  refine subscriptTail_builtinR (x := w') dd.typeIs PySem.F.slot_dict_getitem.lookup
    (wpAny_getItem_heap (knd := nestedKind X.prog X.w) (by show X.A.units + 1 + 8 < cLine; omega) (hb.is I.hok) dd hp (Q := fun r s' => r = w' ∧ EP X pins σ Q r s') ⟨e2, by rw [e2]; exact fin _⟩) hs
/-- d[p] = v, p new -/
def rPSet (X : Cx) : TSet := fun o i v H Q => ∃ d b xs p, o = .ref d ∧ i = .ref b ∧ H d = some (PD X.prog X.w d xs) ∧ PKeys H xs ∧ PlAt H b p ∧ p ∉ xs.map (·.1) ∧ xs.length < sizeLine ∧ Q (upd H d (PD X.prog X.w d (xs ++ [(p, b, v)])))
theorem set_pd (hu : X.A.units + 9 < cLine) : PSet X (rPSet X) := by
  intro pins s σ H o i v ov iv u Q I ro ri rv h
  obtain ⟨d, b, xs, p, rfl, rfl, hd, hk, hb, hn, hl, q⟩ := h
  cases ro
  cases ri
  obtain ⟨z, lo, us, r, dd⟩ := pd_of I.hok (.inl hd) hk
  have lenE : xs.length = us.length := Paired.length r
  have nn : atKey us (nk p) = none := by
    have e := atKey_isSome r p
    rw [decide_eq_false hn] at e
    cases z : atKey us (nk p) with
    | none => rfl
    | some _ => rw [z] at e; cases e
  refine wpAny_setItem_heap (knd := nestedKind X.prog X.w) (hsz := by rw [← lenE]; exact z) (by show X.A.units + 1 + 8 < cLine; omega) (hb.is I.hok) dd fun h' dd' hs => ?_
  rw [storedH_new nn] at dd'
  obtain ⟨ob, es, ep, ho, hc, hdt, he, _, hnd⟩ := dd'
  refine ⟨_, d_write I (by rw [hd]; exact True.intro) hs ⟨ob, ho⟩ (PDphi.ok ⟨?_, lo, _, Paired.snoc r ⟨rfl, rfl, rv⟩, ob, es, ep, ho, hc, hdt, he, hnd⟩), q⟩
  rw [List.length_append, List.length_singleton]
  omega
/-- {p: v} -/
def tPDisp (X : Cx) (tk tv : TE) : TE := fun σ H Q => ∀ d, H d = none → tk σ (upd H d (PD X.prog X.w d [])) fun x H1 => tv σ H1 fun v H2 => ∃ b p, x = .ref b ∧ PlAt H2 b p ∧ H2 d = some (PD X.prog X.w d []) ∧ Q (.ref d) (upd H2 d (PD X.prog X.w d [(p, b, v)]))
theorem pd_empty {P : Program} {w : World} {H : Hp} (h : Heap) (hb : sysModules < h.objs.size) : ObjOk P w H (h.push { cls := .type "dict", data := .dict #[] }) h.objs.size (PD P w h.objs.size []) :=
  PDphi.ok ⟨Nat.zero_le _, beq_eq_false_iff_ne.mpr (Ne.symm (Nat.ne_of_lt hb)), [], .nil, _, #[], 0, Heap.get?_push_size _ rfl, ⟨rfl, rfl, rfl⟩, rfl, rfl, List.nodup_nil⟩
theorem pe_pdisp {k e : Expr} {tk tv : TE} {pos : Pos} (hu : X.A.units + 9 < cLine) (hk : PE X k tk) (he : PE X e tv) : PE X (.Dict [some k] [e] pos) (tPDisp X tk tv) := by
  refine ⟨fun pins s σ H Q I q => ?_⟩
  have hn := I.hok.fresh (Nat.le_refl s.heap.objs.size)
  have I1 := I.laid (a := s.heap.objs.size) (o := PD X.prog X.w s.heap.objs.size []) (h' := s.heap.push { cls := .type "dict", data := .dict #[] }) (t' := s.toks) (fun _ _ q => Heap.get?_push_of_some _ q) (Nat.le_refl _) (pd_empty s.heap I.big)
  rw [arm_eval_Dict, zip_pairTrees [some k] [e] X.env pos rfl rfl, dictDisplay_pairs (pairTrees [some k] [e] X.env pos) (by simp [pairTrees]) (by simp [pairTrees])]
  refine wpAny_bind (wpAny_standAt (wpAny_bind (wpAny_subDictH (knd := nestedKind X.prog X.w) (by show X.A.units + 8 < cLine; omega) (by show 1 ≤ 15; decide) ?_)))
  refine pairTrees_cons_walk (thn (hk.run pins _ σ _ _ I1 (q _ hn)) fun u s1 ⟨x, H1, J1, rx, q1⟩ => thn (he.run pins s1 σ H1 _ J1 q1) fun w2 s2 ⟨y, H2, J2, ry, b, p, ex, hb, hd, q2⟩ => pairTrees_nil_walk ?_)
  subst ex
  cases rx
  obtain ⟨z, lo, us, r, dd⟩ := pd_of J2.hok (.inl hd) (fun x hx => nomatch hx)
  cases r
  refine ⟨[(nk p, b, w2)], ⟨rfl, rfl, hb.is J2.hok, trivial⟩, dd, fun h' tk dd' hs => wpAny_pure ⟨.ref s.heap.objs.size, _, ?_, rfl, q2⟩⟩
  obtain ⟨ob, es, ep, ho, hc, hdt, hen, _, hnd⟩ := dd'
  exact d_write J2 (by rw [hd]; exact True.intro) hs ⟨ob, ho⟩ (PDphi.ok ⟨by show 1 ≤ sizeLine; decide, lo, _, .cons ⟨rfl, rfl, ry⟩ .nil, ob, es, ep, ho, hc, hdt, hen, hnd⟩)
end
end TM
end
/-! ## TPi -/
section
/-! Dicts of places, walked: by keys, by items. -/
namespace TM
open PySem PySem.Spec PyProof.Rows L2
section
variable {X : Cx} {pins : List (Addr × Obj)} {σ : L2.St} {H : Hp} {s : Shared} {d : Addr} {o : Obj}
theorem entries_get {xs : List Ent} {us : List (NestedKey × Addr × Value)} {es : Array DictEntry} {w : World} {P : Program} (r : Paired EntR xs us) (he : es.toList = us.map (entryOfKey (nestedKind P w))) :
    es.size = xs.length ∧ ∀ (i : Nat) (x : Ent), xs[i]? = some x → ∃ en, es[i]? = some en ∧ en.key = .ref x.2.1 ∧ RelV x.2.2 en.val := by
  have l1 : es.size = us.length := by rw [← Array.length_toList, he, List.length_map]
  have l2 : xs.length = us.length := Paired.length r
  refine ⟨by omega, fun i x hx => ?_⟩
  obtain ⟨u, hu, e1, e2, e3⟩ := paired_get r hx
  refine ⟨entryOfKey (nestedKind P w) u, ?_, ?_, e3⟩
  · rw [← Array.getElem?_toList, he, List.getElem?_map, hu]
    rfl
  · show Value.ref u.2.1 = _
    rw [e2]
theorem frzP {xs : List Ent} (I : Inv X pins σ H s) (h : H d = some (.frz o (PD X.prog X.w d xs))) :
    (d == sysModules) = false ∧ ∃ (es : Array DictEntry) (ep : Nat), o.data = .dict es ep ∧ s.heap.DictRaw d es ep ∧ es.size = xs.length ∧
      ∀ (i : Nat) (x : Ent), xs[i]? = some x → ∃ en, es[i]? = some en ∧ en.key = .ref x.2.1 ∧ RelV x.2.2 en.val := by
  obtain ⟨hd, ⟨z, lo, us, r, o', es, ep, ho, hx, hdt, he, _⟩, _⟩ := (show ObjOk X.prog X.w H s.heap d (.frz o (PD X.prog X.w d xs)) from I.hok d _ h)
  rw [hd] at ho
  cases ho
  obtain ⟨e1, e2⟩ := entries_get r he
  exact ⟨lo, es, ep, hdt, ⟨o, hd, hx, hdt⟩, e1, e2⟩
end
/-- the keys' own tuples, in their order -/
def Itp (P : Program) (w : World) (d : Addr) (o : Obj) (xs : List Ent) : It :=
  ⟨fun i H => H d = some (.frz o (PD P w d xs)) ∧ i < xs.length, fun i H v H' => H' = H ∧ ∃ x, xs[i]? = some x ∧ v = .ref x.2.1, fun i H => H d = some (.frz o (PD P w d xs)) ∧ xs.length ≤ i⟩
/-- the pairs, each a new tuple -/
def Itpi (P : Program) (w : World) (d : Addr) (o : Obj) (xs : List Ent) : It :=
  ⟨fun i H => H d = some (.frz o (PD P w d xs)) ∧ i < xs.length, fun i H v H' => ∃ T x, xs[i]? = some x ∧ v = .ref T ∧ H T = none ∧ H' = upd H T (.tup [.ref x.2.1, x.2.2]), fun i H => H d = some (.frz o (PD P w d xs)) ∧ xs.length ≤ i⟩
theorem same_dict {o : Obj} {es es' : Array DictEntry} {ep ep' : Nat} (h : o.data = .dict es ep) (h' : o.data = .dict es' ep') : es' = es ∧ ep' = ep := by
  rw [h] at h'
  cases h'
  exact ⟨rfl, rfl⟩
section
variable {P : Program} {w : World} {K : PySem.W.Frag} {tg : Expr} {d : Addr} {o : Obj} {es : Array DictEntry} {ep : Nat} {xs : List Ent}
theorem turn_pkeys (it : Addr) (hod : o.data = .dict es ep) : Turn P w K tg (Itp P w d o xs) [it] it (fun i h => h.IsKeyIter it d i es.size ep) where
  mem := List.mem_singleton.mpr rfl
  obj := fun i h st b hb => by
    cases List.mem_singleton.mp hb
    obtain ⟨oi, e, c, dd⟩ := st
    exact ⟨oi, e, fun v z => by rw [dd] at z; cases z⟩
  keep := fun i h h' st k => st.at fun oi e => k it (List.mem_singleton.mpr rfl) oi e
  item := by
    intro X hP hw hK hc i pins s σ H E I hf st hg
    cases hP; cases hw; cases hK
    obtain ⟨hd, hi⟩ := hg
    obtain ⟨f0, f1, f2, f3, f4, f5⟩ := hf it (List.mem_singleton.mpr rfl)
    obtain ⟨lo, es', ep', hdt, raw, hsz, ent⟩ := frzP I hd
    obtain ⟨rfl, rfl⟩ := same_dict hod hdt
    obtain ⟨en, hen, hkey, _⟩ := ent i xs[i] (List.getElem?_eq_getElem hi)
    have hlt : i < es'.size := by omega
    have e0 : es'[i] = en := Option.some.inj ((Array.getElem?_eq_getElem hlt).symm.trans hen)
    refine wpAny_pyNext_keys_item_raw st raw hlt fun h' st' sb => ?_
    have J : Inv X pins σ H { s with heap := h' } := I.turned (t' := s.toks) (fun b ob hb e => (sb.2 b hb).trans e) f0 f1 f3 f4 f5
    obtain ⟨oi, e, c, dd⟩ := id st'
    exact ⟨es'[i].key, rfl, go_of (s := { s with heap := h' }) e c dd (by decide) ⟨.ref xs[i].2.1, H, J, by rw [e0]; exact hkey, ⟨rfl, xs[i], List.getElem?_eq_getElem hi, rfl⟩, st', fun b hb => (hf b hb).1⟩⟩
  done := by
    intro X hP hw hK hc i pins s σ H E I hf st hg
    cases hP; cases hw; cases hK
    obtain ⟨hd, hi⟩ := hg
    obtain ⟨f0, f1, f2, f3, f4, f5⟩ := hf it (List.mem_singleton.mpr rfl)
    obtain ⟨lo, es', ep', hdt, raw, hsz, ent⟩ := frzP I hd
    obtain ⟨rfl, rfl⟩ := same_dict hod hdt
    exact wpAny_pyNext_keys_end_raw (I.ok.hd hc) st raw (by omega) fun h' eb => ⟨rfl, I.turned (t' := s.toks) (fun b ob hb e => eb b ob hb e) f0 f1 f3 f4 f5⟩
  self := fun A i s Q E st h => wpAny_pyIter_keyiter st h
theorem turn_pitems {elts : List Expr} {kk : Nat} {tpos : Pos} (it : Addr) (hod : o.data = .dict es ep) :
    Turn P w K (.Tuple elts kk tpos) (Itpi P w d o xs) [it] it (fun i h => ∃ ok ov, IsItemIter h it d i es.size ep ok ov) where
  mem := List.mem_singleton.mpr rfl
  obj := fun i h st b hb => by
    cases List.mem_singleton.mp hb
    obtain ⟨ok, ov, e⟩ := st
    exact ⟨_, e, fun v z => nomatch z⟩
  keep := fun i h h' st k => let ⟨ok, ov, e⟩ := st; ⟨ok, ov, k it (List.mem_singleton.mpr rfl) _ e⟩
  item := by
    intro X hP hw hK hc i pins s σ H E I hf st hg
    cases hP; cases hw; cases hK
    obtain ⟨hd, hi⟩ := hg
    obtain ⟨lo, es', ep', hdt, raw, hsz, ent⟩ := frzP I hd
    obtain ⟨rfl, rfl⟩ := same_dict hod hdt
    obtain ⟨en, hen, hkey, hval⟩ := ent i xs[i] (List.getElem?_eq_getElem hi)
    have hin : i < es'.size := by omega
    have e0 : es'[i] = en := Option.some.inj ((Array.getElem?_eq_getElem hin).symm.trans hen)
    obtain ⟨ok, ov, he⟩ := st
    have hlt : it < s.heap.objs.size := Heap.lt_size he
    refine wpAny_pyNext_items_item_raw he raw hin fun h' ho hT hz hk => ?_
    rw [e0] at ho hT
    refine ⟨_, rfl, wpAny_letOwnedTupleGo_items (s := { s with heap := h' }) ho fun h'' he' sb => ?_⟩
    have hT2 : h''.get? s.heap.objs.size = some { cls := .type "tuple", data := .seq #[en.key, en.val] } := (sb.2 _ (Nat.ne_of_gt hlt)).trans hT
    have new : ObjOk X.prog X.w (upd H s.heap.objs.size (.tup [.ref xs[i].2.1, xs[i].2.2])) h'' s.heap.objs.size (.tup [.ref xs[i].2.1, xs[i].2.2]) :=
      ⟨by show 2 ≤ sizeLine; decide, [en.key, en.val], .cons hkey (.cons hval .nil), ⟨_, hT2, rfl, _, rfl⟩⟩
    have J : Inv X pins σ (upd H s.heap.objs.size (.tup [.ref xs[i].2.1, xs[i].2.2])) { s with heap := h'' } :=
      I.turnedNew (t' := s.toks) (ch := [it]) (fun b ob hb e => (sb.2 b (fun z => hb (List.mem_singleton.mpr z))).trans (hk b ob (fun z => hb (List.mem_singleton.mpr z)) e)) hf (Nat.le_refl _) new
    refine ⟨.ref s.heap.objs.size, _, J, rfl, ⟨_, xs[i], List.getElem?_eq_getElem hi, rfl, I.hok.fresh (Nat.le_refl _), rfl⟩, ⟨en.key, en.val, he'⟩, fun b hb => ?_⟩
    cases List.mem_singleton.mp hb
    rw [upd_ne (Nat.ne_of_lt hlt)]
    exact (hf it (List.mem_singleton.mpr rfl)).1
  done := by
    intro X hP hw hK hc i pins s σ H E I hf st hg
    cases hP; cases hw; cases hK
    obtain ⟨hd, hi⟩ := hg
    obtain ⟨f0, f1, f2, f3, f4, f5⟩ := hf it (List.mem_singleton.mpr rfl)
    obtain ⟨lo, es', ep', hdt, raw, hsz, ent⟩ := frzP I hd
    obtain ⟨rfl, rfl⟩ := same_dict hod hdt
    obtain ⟨ok, ov, he⟩ := st
    exact wpAny_pyNext_items_end_raw (I.ok.hd hc) he raw (by omega) fun h' eb => ⟨rfl, I.turned (t' := s.toks) (fun b ob hb e => eb b ob hb e) f0 f1 f3 f4 f5⟩
  self := fun A i s Q E st h => let ⟨_, _, e⟩ := st; PySem.W.kcp_self e h
end
/-- for p in d, d a dict of places that nothing writes to from now on -/
def iPKeys (P : Program) (w : World) (td : TE) : TI := fun σ H R => td σ H fun x H1 => ∃ d xs, x = .ref d ∧ H1 d = some (PD P w d xs) ∧ ∀ od, R (Itp P w d od xs) (upd H1 d (.frz od (PD P w d xs)))
def iPItems (P : Program) (w : World) (td : TE) : TI := fun σ H R => td σ H fun x H1 => ∃ d xs, x = .ref d ∧ H1 d = some (PD P w d xs) ∧ ∀ od, R (Itpi P w d od xs) (upd H1 d (.frz od (PD P w d xs)))
section
variable {X : Cx} {tg e : Expr} {td : TE} {apos cpos : Pos}
theorem pi_pkeys (he : PE X e td) : PI X tg e (iPKeys X.prog X.w td) := by
  refine ⟨fun pins s σ H R I h => ?_⟩
  refine thn (he.run pins s σ H _ I h) fun u s1 ⟨x, H1, I1, rx, d, xs, ex, hd, q⟩ => ?_
  subst ex
  cases rx
  obtain ⟨od, J⟩ := I1.lock hd (show Mut (some (PD X.prog X.w d xs)) from trivial)
  obtain ⟨lo, es, ep, hdt, raw, hsz, ent⟩ := frzP J upd_same
  exact wpAny_pyIter_dict_raw lo raw (pi_one (tk := s1.toks) J _ (turn_pkeys _ hdt) ⟨_, Heap.get?_push_size _ rfl, rfl, rfl⟩ (q od))
theorem pi_pitems {elts : List Expr} {kk : Nat} {tpos : Pos} (he : PE X e td) (hbase : attributeBase e "items" X.env (eval e X.env) = eval e X.env := by rfl) (hline : (apos.endLine == cpos.line) = true := by rfl) :
    PI X (.Tuple elts kk tpos) (.Call (.Attribute e "items" apos) [] [] cpos) (iPItems X.prog X.w td) := by
  refine ⟨fun pins s σ H R I h => ?_⟩
  refine wpAny_Call_method (T := "dict") (id := "dict.items") hbase rfl hline F.plainAttrs_dict F.slot_dict_items F.type_dict_items (thn (he.run pins s σ H _ I h) fun u s1 ⟨x, H1, I1, rx, d, xs, ex, hd, q⟩ => ?_)
  subst ex
  cases rx
  obtain ⟨od, J⟩ := I1.lock hd (show Mut (some (PD X.prog X.w d xs)) from trivial)
  obtain ⟨lo, es, ep, hdt, raw, hsz, ent⟩ := frzP J upd_same
  obtain ⟨ob, ho, hx, hdd⟩ := id raw
  refine ⟨raw.typeIs, fun b z => by cases z; exact ⟨ob, ho, hx.2.1⟩, ?_⟩
  have J2 : Inv X pins σ (upd H1 d (.frz od (PD X.prog X.w d xs))) { s1 with heap := s1.heap.push { cls := .type "dict_items", data := .fields #[.ref d] } } := J.kept (t' := s1.toks) fun b ob q => Heap.get?_push_of_some _ q
  have fin : wpAny (model X.prog X.w) X.A (pyIter (.ref s1.heap.objs.size)) (PIE X pins σ (.Tuple elts kk tpos) R) X.xe { s1 with heap := s1.heap.push { cls := .type "dict_items", data := .fields #[.ref d] } } :=
    wpAny_pyIter_items_raw (d := d) ⟨_, Heap.get?_push_size _ rfl, rfl, rfl⟩ (raw.at fun o e => Heap.get?_push_of_some _ e) (pi_one (tk := s1.toks) J2 _ (turn_pitems _ hdt) ⟨.none, .none, Heap.get?_push_size _ rfl⟩ (q od))
  show wpAny _ _ (callWith cpos (.builtin "dict.items") [.ref d] [] []) _ X.xe s1
  exact method_meetsIn F.slot_dict_items F.entry_dict_items rfl (PySem.evalArgs_none ⟨rfl, raw.typeIs, F.args_dict_items_1 _, _, meets_dict_items_raw d lo, ⟨es, ep, raw⟩, fin⟩)
end
section
variable {P : Program} {w : World} {d : Addr} {o : Obj} {xs : List Ent}
theorem walk_pkeys : Walk (Itp P w d o xs) xs.length (fun H => H d = some (.frz o (PD P w d xs))) (fun i H v H' => H' = H ∧ ∃ x, xs[i]? = some x ∧ v = .ref x.2.1) :=
  ⟨fun _ _ hi q => ⟨q, hi⟩, fun _ q => ⟨q, Nat.le_refl _⟩, fun _ _ _ _ _ _ y => y⟩
theorem walk_pitems : Walk (Itpi P w d o xs) xs.length (fun H => H d = some (.frz o (PD P w d xs))) (fun i H v H' => ∃ T x, xs[i]? = some x ∧ v = .ref T ∧ H T = none ∧ H' = upd H T (.tup [.ref x.2.1, x.2.2])) :=
  ⟨fun _ _ hi q => ⟨q, hi⟩, fun _ q => ⟨q, Nat.le_refl _⟩, fun _ _ _ _ _ _ y => y⟩
end
end TM
end
/-! ## TOp1 -/
section
/-! Operations of the program's that the layer lacks: floors, marks as tuples, their places; enumerate of a text; least and greatest of small tuples. -/
namespace TM
open PySem PySem.Spec PyProof.Rows L2

/-! ### floors: tuples whose own object is known -/
abbrev CellsAt (H : Hp) : List Addr → List Cell → Prop := Paired (CellAt H)
def FlAt (H : Hp) (a : Addr) (fl : List Cell) : Prop := ∃ o as, o.dict = none ∧ H a = some (.frz o (.tup (as.map V.ref))) ∧ CellsAt H as fl
/-- a tuple of numbers whose own object is known -/
def IntsAt (H : Hp) (a : Addr) (ns : List Int) : Prop := ∃ o, o.dict = none ∧ H a = some (.frz o (.tup (ns.map V.int)))
/-- a list of cells -/
def CsAt (H : Hp) (a : Addr) (cs : List Cell) : Prop := ∃ as, H a = some (.lst (as.map V.ref)) ∧ CellsAt H as cs
def SameT (H H' : Hp) : Prop := TupS H H' ∧ ∀ b o u, H b = some (.frz o u) → H' b = some (.frz o u)
section
variable {H H' : Hp} {a : Addr}
theorem same_tup (s : Same H H') : TupS H H' := fun b xs e => s b _ e
theorem same_T (s : Same H H') : SameT H H' := ⟨same_tup s, fun b o u e => s b _ e⟩
theorem CellsAt.mono {as : List Addr} {fl : List Cell} (t : TupS H H') (h : CellsAt H as fl) : CellsAt H' as fl := Paired.mapP h fun b c e => t _ _ e
theorem FlAt.mono {fl : List Cell} (t : SameT H H') (h : FlAt H a fl) : FlAt H' a fl := let ⟨o, as, h1, h2, h3⟩ := h; ⟨o, as, h1, t.2 _ _ _ h2, h3.mono t.1⟩
theorem SameT.trans {H1 : Hp} (p : SameT H H') (q : SameT H' H1) : SameT H H1 := ⟨p.1.trans q.1, fun b o u e => q.2 _ _ _ (p.2 _ _ _ e)⟩
theorem SameT.new {o : HO} (h : H a = none) : SameT H (upd H a o) := ⟨TupS.new h, fun b o u e => by rw [upd_ne (ne_of_none e h)]; exact e⟩
theorem SameT.refl : SameT H H := ⟨fun _ _ e => e, fun _ _ _ e => e⟩
theorem SameT.at {o u : HO} (h : H a = some o) (h1 : ∀ xs, o ≠ .tup xs) (h2 : ∀ ob v, o ≠ .frz ob v) : SameT H (upd H a u) :=
  ⟨TupS.upd fun xs e => by rw [h] at e; exact h1 xs (Option.some.inj e), fun b ob v e => by rw [upd_ne (fun z => by rw [z, h] at e; exact h2 ob v (Option.some.inj e))]; exact e⟩
theorem FlAt.sq {K : PySem.W.Frag} {fl : List Cell} (h : FlAt H a fl) : ∃ as, SqT K H a (as.map V.ref) ∧ CellsAt H as fl ∧ as.length = fl.length := let ⟨o, as, _, h2, h3⟩ := h; ⟨as, .inl (.inr ⟨o, h2⟩), h3, Paired.length h3⟩
end

/-! ### the items as data -/
def cK (c : Cell) : NestedKey := .tup [.num c.1, .num c.2]
theorem cK_inj {c d : Cell} (e : cK c = cK d) : c = d := by
  obtain ⟨a, b⟩ := c
  obtain ⟨a', b'⟩ := d
  simp only [cK, NestedKey.tup.injEq, List.cons.injEq, NestedKey.num.injEq, and_true] at e
  rw [e.1, e.2]
theorem cK_depth (c : Cell) : (cK c).depth = 1 := by simp [cK, NestedKey.depth, NestedKey.depthAll]
def cD (c : Cell) : PyData := .tuple [.int c.1, .int c.2]
theorem cD_lay (c : Cell) : (cD c).canLay0 = true := by simp [cD, PyData.canLay0, PyData.canLayAll0]
theorem cDs_lay : ∀ cs : List Cell, PyData.canLayAll0 (cs.map cD) = true
  | [] => by simp [PyData.canLayAll0]
  | c :: cs => by simp [PyData.canLayAll0, cD_lay c, cDs_lay cs]
theorem cD_depth (c : Cell) : (cD c).depth = 1 := by simp [cD, PyData.depth, PyData.depthAll]
theorem cDs_depth : ∀ cs : List Cell, PyData.depthAll (cs.map cD) ≤ 1
  | [] => by simp [PyData.depthAll]
  | c :: cs => by
    have h1 := cDs_depth cs
    have h2 := cD_depth c
    simp only [List.map_cons, PyData.depthAll]
    omega
theorem cD_eqv (c d : Cell) : PyData.eqv (cD c) (cD d) = decide (c = d) := by
  obtain ⟨a, b⟩ := c
  obtain ⟨a', b'⟩ := d
  have e : PyData.eqv (cD (a, b)) (cD (a', b')) = ((a == a') && ((b == b') && true)) := by simp only [cD, PyData.eqv, PyData.eqvAll]
  rw [e]
  by_cases h1 : a = a'
  · by_cases h2 : b = b'
    · subst h1 h2
      simp
    · simp [h2]
  · simp [h1]
theorem any_eqv (c : Cell) : ∀ cs : List Cell, ((cs.map cD).any fun z => PyData.eqv z (cD c)) = decide (c ∈ cs)
  | [] => by simp
  | d :: cs => by
    rw [List.map_cons, List.any_cons, any_eqv c cs, cD_eqv]
    by_cases h : d = c
    · subst h
      simp
    · have h' : ¬ c = d := fun e => h e.symm
      simp [h, h']
section
variable {X : Cx} {pins : List (Addr × Obj)} {σ : L2.St} {H : Hp} {s : Shared} {a b : Addr}
theorem cell_reads {c : Cell} (I : Inv X pins σ H s) (h : CellAt H a c) : ∃ as, Reads s.heap (.ref a) (cD c) as :=
  Dp.reads I (cD c) (.ref a) (.ref a) (.tup (SqT.of h) (.cons (.int _) (.cons (.int _) .nil))) rfl
theorem cells_dp {K : PySem.W.Frag} {as : List Addr} {cs : List Cell} (h : CellsAt H as cs) : DpAll K H (as.map V.ref) (cs.map cD) := by
  induction h with
  | nil => exact .nil
  | cons r t ih => exact .cons (.tup (SqT.of r) (.cons (.int _) (.cons (.int _) .nil))) ih
theorem fl_reads {fl : List Cell} (I : Inv X pins σ H s) (h : FlAt H a fl) : ∃ as, Reads s.heap (.ref a) (.tuple (fl.map cD)) as := by
  obtain ⟨as, hs, hc, _⟩ := h.sq (K := X.K)
  exact Dp.reads I _ (.ref a) (.ref a) (.tup hs (cells_dp hc)) rfl
theorem cs_reads {cs : List Cell} (I : Inv X pins σ H s) (h : CsAt H a cs) : ∃ as, Reads s.heap (.ref a) (.list (cs.map cD)) as := by
  obtain ⟨as, hs, hc⟩ := h
  exact Dp.reads I _ (.ref a) (.ref a) (.lst (SqL.of hs) (cells_dp hc)) rfl
end
section
variable {X : Cx}
/-- c in floor, c not in floor -/
def rInFl : R2 := fun x y H Q => ∃ b a c fl, x = .ref b ∧ y = .ref a ∧ CellAt H b c ∧ FlAt H a fl ∧ Q (.bl (decide (c ∈ fl))) H
def rNotInFl : R2 := fun x y H Q => ∃ b a c fl, x = .ref b ∧ y = .ref a ∧ CellAt H b c ∧ FlAt H a fl ∧ Q (.bl (!decide (c ∈ fl))) H
def rNotInCs : R2 := fun x y H Q => ∃ b a c cs, x = .ref b ∧ y = .ref a ∧ CellAt H b c ∧ CsAt H a cs ∧ Q (.bl (!decide (c ∈ cs))) H
theorem op_inFl (hu : X.A.units + 9 < cLine) : OpR X (compareOp .In) rInFl := by
  intro pins s σ H x y v u Q I rx ry h
  obtain ⟨b, a, c, fl, rfl, rfl, hb, ha, q⟩ := h
  cases rx
  cases ry
  obtain ⟨as, r1⟩ := cell_reads I hb
  obtain ⟨bs, r2⟩ := fl_reads I ha
  have e1 := cDs_depth fl
  have e2 := cD_depth c
  exact SeqAt.in_tuple_reads r2 r1 (cDs_lay fl) (cD_lay c) (by omega) ⟨.bl _, H, I, by rw [any_eqv]; rfl, q⟩
theorem op_notInFl (hu : X.A.units + 9 < cLine) : OpR X (compareOp .NotIn) rNotInFl := by
  intro pins s σ H x y v u Q I rx ry h
  obtain ⟨b, a, c, fl, rfl, rfl, hb, ha, q⟩ := h
  cases rx
  cases ry
  obtain ⟨as, r1⟩ := cell_reads I hb
  obtain ⟨bs, r2⟩ := fl_reads I ha
  have e1 := cDs_depth fl
  have e2 := cD_depth c
  exact SeqAt.notIn_tuple_reads r2 r1 (cDs_lay fl) (cD_lay c) (by omega) ⟨.bl _, H, I, by rw [any_eqv]; rfl, q⟩
theorem op_notInCs (hu : X.A.units + 9 < cLine) : OpR X (compareOp .NotIn) rNotInCs := by
  intro pins s σ H x y v u Q I rx ry h
  obtain ⟨b, a, c, cs, rfl, rfl, hb, ha, q⟩ := h
  cases rx
  cases ry
  obtain ⟨as, r1⟩ := cell_reads I hb
  obtain ⟨bs, r2⟩ := cs_reads I ha
  have e1 := cDs_depth cs
  have e2 := cD_depth c
  exact SeqAt.notIn_list_reads r2 r1 (cDs_lay cs) (cD_lay c) (by omega) ⟨.bl _, H, I, by rw [any_eqv]; rfl, q⟩

/-! ### tuple(list), its own object known -/
theorem call_tupleF : CallR X (.type "tuple") (fun xs H Q => ∃ p ys, xs = [.ref p] ∧ SqL X.K H p ys ∧ ∀ l o, H l = none → o.dict = none → Q (.ref l) (upd H l (.frz o (.tup ys)))) := by
  intro pins s σ H xs us Q I r h
  obtain ⟨p, ys, rfl, hq, q⟩ := h
  obtain ⟨u, rfl, rx⟩ := vals1 r
  cases rx
  obtain ⟨its, r', pl, hz⟩ := I.list hq
  have hlen := r'.length
  refine call_tuple_list pl.isList (fun h' kp => ?_) (by simp only [List.size_toArray]; omega)
  have J : Inv X pins σ H { s with heap := h' } := I.kept (t' := s.toks) kp
  have new : ObjOk X.prog X.w (upd H h'.objs.size (.frz { cls := .type "tuple", data := .seq its.toArray } (.tup ys))) (h'.push { cls := .type "tuple", data := .seq its.toArray }) h'.objs.size (.frz { cls := .type "tuple", data := .seq its.toArray } (.tup ys)) :=
    ⟨Heap.get?_push_size _ rfl, hz, its, r', IsTup.new _ _⟩
  exact ⟨.ref h'.objs.size, _, J.laid (t' := s.toks) (fun b o e => Heap.get?_push_of_some _ e) (Nat.le_refl _) new, rfl, q _ _ (J.hok.fresh (Nat.le_refl _)) rfl⟩

/-! ### t.index(x) -/
/-- a method of a tuple whose own object is known, one argument -/
def tTM (r : V → List V → Hp → VK → Prop) (to : TE) (ta : TA) : TE := fun σ H Q => to σ H fun x H1 => (∃ a o xs, x = .ref a ∧ o.dict = none ∧ H1 a = some (.frz o (.tup xs))) ∧ ta σ H1 fun ys H2 => r x ys H2 Q
theorem pe_index {o e : Expr} {to : TE} {ta : TA} {r : V → List V → Hp → VK → Prop} {apos cpos : Pos} (hr : MtR X "tuple.index" r) (ho : PE X o to) (ha : PA X [e] ta)
    (hbase : attributeBase o "index" X.env (eval o X.env) = eval o X.env := by rfl)
    (few : ((backTo cpos (starEach [e] X.env)).all (fun x => !x.1) && (backToKw cpos (keywordEach [] X.env)).all (fun x => x.1.isSome) && decide (([e] : List Expr).length + ([] : List Keyword).length + (if ([] : List Keyword).isEmpty then 0 else 1) < 30)) = true := by rfl)
    (line : (apos.endLine == cpos.line) = true := by rfl) (trees : starEach [e] X.env = (false, eval e X.env) :: starEach [] X.env := by rfl) (plain : (backTo cpos (starEach [] X.env)).any (·.1) = false := by rfl) :
    PE X (.Call (.Attribute o "index" apos) [e] [] cpos) (tTM r to ta) := by
  refine ⟨fun pins s σ H Q I h => ?_⟩
  refine wpAny_Call_method_late hbase few line rfl (thn (ho.run pins s σ H _ I h) fun v s1 ⟨x, H1, J, r1, ⟨a, ob, xs, ex, hd, hob⟩, q1⟩ => ?_)
  subst ex
  cases r1
  obtain ⟨hg, _, its, rv, o2, h1, h2, _⟩ := (show ObjOk X.prog X.w H1 s1.heap a (.frz ob (.tup xs)) from J.hok a _ hob)
  refine ⟨"tuple", _, PySem.F.plainAttrs_tuple, PySem.F.slot_tuple_index, PySem.F.type_tuple_index, ⟨o2, h1, h2⟩, fun b z => by cases z; exact ⟨ob, hg, hd⟩, ?_⟩
  have hA := ha.run cpos pins s1 σ H1 _ J q1
  rw [trees] at hA ⊢
  refine Calls.callWith_builtin (by show (false || (backTo cpos (starEach [] X.env)).any (·.1)) = false; rw [plain]; rfl) (Calls.evalArgs_plain ?_)
  exact thn hA fun us s2 ⟨vs, H2, J2, r2, q2⟩ => hr pins s2 σ H2 (.ref a) vs (.ref a) us Q J2 rfl r2 q2
/-- floor.index(cell) -/
def rIndexFl : V → List V → Hp → VK → Prop := fun x ys H Q => ∃ a b fl c, x = .ref a ∧ ys = [.ref b] ∧ FlAt H a fl ∧ CellAt H b c ∧ c ∈ fl ∧ Q (.int (fl.idxOf c : Nat)) H
theorem cells_all {P : Program} {w : World} {H : Hp} {h : Heap} (ok : HOk P w H h) : ∀ {as : List Addr} {cs : List Cell} {us : List Value}, CellsAt H as cs → Vals (as.map V.ref) us → NestedAll h (cs.map cK) us
  | _, _, _, .nil, r => by
    cases r
    exact .nil
  | _, _, _, .cons hc t, r => by
    cases r with
    | cons r1 r2 =>
      cases r1
      exact .cons (cell_is ok hc) (cells_all ok t r2)
theorem idxOf_cK {fl : List Cell} {c : Cell} : (fl.map cK).idxOf (cK c) = fl.idxOf c := by
  induction fl with
  | nil => rfl
  | cons d fl ih =>
    rw [List.map_cons, List.idxOf_cons, List.idxOf_cons, ih]
    by_cases e : d = c
    · subst e
      simp
    · have e' : ¬ cK d = cK c := fun z => e (cK_inj z)
      have a1 : (d == c) = false := by simpa using e
      have a2 : (cK d == cK c) = false := by simpa using e'
      rw [a1, a2]
theorem mt_indexFl (hu : X.A.units + 9 < cLine) : MtR X "tuple.index" rIndexFl := by
  intro pins s σ H x xs v us Q I rx rs h
  obtain ⟨a, b, fl, c, rfl, rfl, ha, hb, hm, q⟩ := h
  cases rx
  obtain ⟨u, rfl, ry⟩ := vals1 rs
  cases ry
  obtain ⟨as, hs, hc, _⟩ := ha.sq (K := X.K)
  obtain ⟨its, rv, pt, _⟩ := I.tuple hs
  have e : (fl.map cK).idxOf (cK c) = fl.idxOf c := idxOf_cK
  refine SeqAt.call_tuple_index (ks := fl.map cK) (k := cK c) pt (SeqAt.ItemsEq.nested (cells_all I.hok hc rv) (cell_is I.hok hb) (by show X.A.units + 1 + _ < cLine; rw [cK_depth]; omega)) (List.mem_map.mpr ⟨c, hm, rfl⟩) ?_
  rw [e]
  exact ⟨.int _, H, I.tok _, ⟨_, rfl⟩, q⟩
/-- moves.index(spot) -/
def rIndexI : V → List V → Hp → VK → Prop := fun x ys H Q => ∃ a ns k, x = .ref a ∧ ys = [.int k] ∧ IntsAt H a ns ∧ k ∈ ns ∧ Q (.int (ns.idxOf k : Nat)) H
theorem mt_indexI : MtR X "tuple.index" rIndexI := by
  intro pins s σ H x xs v us Q I rx rs h
  obtain ⟨a, ns, k, rfl, rfl, ⟨o, _, ha⟩, hm, q⟩ := h
  cases rx
  obtain ⟨u, rfl, ry⟩ := vals1 rs
  obtain ⟨t, rfl⟩ := ry
  obtain ⟨its, rv, pt, _⟩ := I.tuple (show SqT X.K H a (ns.map V.int) from .inl (.inr ⟨o, ha⟩))
  exact SeqAt.tuple_index_ints pt rv.ints hm ⟨.int _, H, I.tok _, ⟨_, rfl⟩, q⟩
end
end TM
end
/-! ## TOp2 -/
section
namespace TM
open PySem PySem.Spec PyProof.Rows L2

/-! ### enumerate(text) -/
def Itet (x : Str) : It := ⟨fun i _ => i < x.cps.size, fun i H v H' => ∃ T c, v = .ref T ∧ H T = none ∧ H' = upd H T (.tup [.int (i : Nat), .str ⟨#[c]⟩]) ∧ x.cps[i]? = some c, fun i _ => x.cps.size ≤ i⟩
theorem turn_etext {P : Program} {w : World} {K : PySem.W.Frag} {elts : List Expr} {kk : Nat} {tpos : Pos} (e it : Addr) (hne : e ≠ it) (x : Str) (t : Tok) :
    Turn P w K (.Tuple elts kk tpos) (Itet x) [e, it] e (fun i h => i ≤ x.cps.size ∧ (∃ old, IsEnum h e it ((i : Nat) : Int) old) ∧ h.IsStrIter it (strIterType x) x t i) where
  mem := List.mem_cons_self
  obj := fun i h st b hb => by
    obtain ⟨_, ⟨old, he⟩, ⟨o, ho, hc, hd⟩⟩ := st
    rcases List.mem_cons.mp hb with z | z
    · rw [z]; exact ⟨_, he, fun v q => nomatch q⟩
    · rw [List.mem_singleton.mp z]; exact ⟨o, ho, fun v q => by rw [hd] at q; cases q⟩
  keep := fun i h h' st k => by
    obtain ⟨hi, ⟨old, he⟩, ⟨o, ho, r⟩⟩ := st
    exact ⟨hi, ⟨old, k e List.mem_cons_self _ he⟩, ⟨o, k it (List.mem_cons_of_mem _ List.mem_cons_self) _ ho, r⟩⟩
  item := by
    intro X hP hw hK hc i pins s σ H E I hf st hg
    cases hP; cases hw; cases hK
    obtain ⟨_, ⟨old, he⟩, hit⟩ := st
    have D := Draws.text (prog := X.prog) (w := X.w) (A := X.A.in1) (I.ok.hd hc) it x t
    have hel : e < s.heap.objs.size := Heap.lt_size he
    have hil : it < s.heap.objs.size := by obtain ⟨_, q, _⟩ := hit; exact Heap.lt_size q
    have hgi : i < x.cps.size := hg
    refine wpAny_pyNext_enum_itemD D he hit hgi hne (fun z => hne (List.mem_singleton.mp z)) fun v h' tk hv ho hit' hT hsz hk => ?_
    obtain ⟨c, u, hcx, rfl⟩ := hv
    refine ⟨_, rfl, wpAny_letOwnedTupleGo_enum (s := { s with heap := h', toks := tk + 1 }) ho fun h'' he' sb => ?_⟩
    have hT2 : h''.get? s.heap.objs.size = some { cls := .type "tuple", data := .seq #[.int i tk, .str ⟨#[c]⟩ u] } := (sb.2 _ (Nat.ne_of_gt hel)).trans hT
    have new : ObjOk X.prog X.w (upd H s.heap.objs.size (.tup [.int (i : Nat), .str ⟨#[c]⟩])) h'' s.heap.objs.size (.tup [.int (i : Nat), .str ⟨#[c]⟩]) :=
      ⟨by show 2 ≤ sizeLine; decide, [.int i tk, .str ⟨#[c]⟩ u], .cons ⟨_, rfl⟩ (.cons ⟨_, rfl⟩ .nil), ⟨_, hT2, rfl, _, rfl⟩⟩
    have J : Inv X pins σ (upd H s.heap.objs.size (.tup [.int (i : Nat), .str ⟨#[c]⟩])) { s with heap := h'', toks := tk + 1 } :=
      I.turnedNew (ch := [e, it]) (fun b ob hb q => (sb.2 b (fun z => hb (by rw [z]; exact List.mem_cons_self))).trans (hk b ob (fun z => hb (by rw [z]; exact List.mem_cons_self)) (fun z => hb (by rw [z]; exact List.mem_cons_of_mem _ List.mem_cons_self)) q)) hf (Nat.le_refl _) new
    refine ⟨.ref s.heap.objs.size, _, J, rfl, ⟨_, c, rfl, I.hok.fresh (Nat.le_refl _), rfl, hcx⟩, ⟨hgi, ⟨.str ⟨#[c]⟩ u, ?_⟩, D.frame _ _ _ hit' fun b hb o q => ?_⟩, fun b hb => ?_⟩
    · have e1 : ((i + 1 : Nat) : Int) = (i : Int) + 1 := by omega
      rw [e1]; exact he'
    · rw [List.mem_singleton.mp hb] at q ⊢
      exact (sb.2 it (Ne.symm hne)).trans q
    · have hb' : b < s.heap.objs.size := by
        rcases List.mem_cons.mp hb with z | z
        · rw [z]; exact hel
        · rw [List.mem_singleton.mp z]; exact hil
      rw [upd_ne (Nat.ne_of_lt hb')]
      exact (hf b hb).1
  done := by
    intro X hP hw hK hc i pins s σ H E I hf st hg
    cases hP; cases hw; cases hK
    obtain ⟨hi, ⟨old, he⟩, hit⟩ := st
    have hge : x.cps.size ≤ i := hg
    obtain rfl : i = x.cps.size := by omega
    have D := Draws.text (prog := X.prog) (w := X.w) (A := X.A.in1) (I.ok.hd hc) it x t
    obtain ⟨f0, f1, f2, f3, f4, f5⟩ := hf it (List.mem_cons_of_mem _ List.mem_cons_self)
    exact wpAny_pyNext_enum_endD D he hit fun h' eb => ⟨rfl, I.turned (t' := s.toks) (fun b o hb q => eb b o hb q) f0 f1 f3 f4 f5⟩
  self := fun A i s Q E st h => let ⟨_, ⟨_, he⟩, _⟩ := st; wpAny_pyIter_enum he h
def iEText (ta : TA) : TI := fun σ H R => ta σ H fun vs H1 => ∃ x, vs = [.str x] ∧ R (Itet x) H1
theorem pi_etext {X : Cx} {e : Expr} {ta : TA} {p pos tpos : Pos} {elts : List Expr} {kk : Nat} (hg : Gl X "enumerate") (hm : X.mg "enumerate" = none) (ha : PA X [e] ta) (hs : starEach [e] X.env = [(false, eval e X.env)] := by rfl) :
    PI X (.Tuple elts kk tpos) (.Call (.Name "enumerate" p) [e] [] pos) (iEText ta) := by
  refine ⟨fun pins s σ H R I h => ?_⟩
  refine Call_ (ld_blt I hg hm boot_enumerate (PyProof.Rows.callWith_type1 (thn (ha.run pos pins s σ H _ I h) fun us s1 ⟨vs, H1, J, r1, x, ex, q⟩ => ?_) hs rfl))
  subst ex
  obtain ⟨u, rfl, ru⟩ := vals1 r1
  obtain ⟨t, rfl⟩ := ru
  refine call_enumerate_str fun h' he hit hsz hk => wpAny_pyIter_enum he ?_
  have J2 : Inv X pins σ H1 { s1 with heap := h' } := J.kept (t' := s1.toks) hk
  refine ⟨s1.heap.objs.size + 1, [s1.heap.objs.size + 1, s1.heap.objs.size], _, _, H1, rfl, J2, turn_etext (s1.heap.objs.size + 1) s1.heap.objs.size (Nat.succ_ne_self _) x t, ⟨Nat.zero_le _, ⟨.none, he⟩, hit⟩, fun b hb => ?_, q⟩
  have hle : s1.heap.objs.size ≤ b := by
    rcases List.mem_cons.mp hb with z | z
    · rw [z]; exact Nat.le_add_right _ _
    · rw [List.mem_singleton.mp z]; exact Nat.le_refl _
  exact J.fpOk hle (J.hok.fresh hle)
theorem walk_etext {x : Str} : Walk (Itet x) x.cps.size (fun _ => True) (fun i H v H' => ∃ T c, v = .ref T ∧ H T = none ∧ H' = upd H T (.tup [.int (i : Nat), .str ⟨#[c]⟩]) ∧ x.cps[i]? = some c) :=
  ⟨fun _ _ hi _ => hi, fun _ _ => Nat.le_refl _, fun _ _ _ _ _ _ y => y⟩
/-- zip of two tuples -/
theorem walk_zipT {K : PySem.W.Frag} {a b : Addr} {xs ys : List V} {n : Nat} (hn : n = min xs.length ys.length) : Walk (RZ.ItzT K a b) n (fun H => SqT K H a xs ∧ SqT K H b ys) (YPair (fun i => xs[i]?) (fun i => ys[i]?)) := by
  subst hn
  refine ⟨fun i _ hi q => ?_, fun _ q => ⟨xs, ys, q.1, q.2, by omega⟩, fun i H v H' _ q y => ?_⟩
  · have h1 : i < xs.length := by omega
    have h2 : i < ys.length := by omega
    exact ⟨xs, ys, xs[i], ys[i], q.1, q.2, List.getElem?_eq_getElem h1, List.getElem?_eq_getElem h2⟩
  · obtain ⟨T, x, z, h1, h2, h3, h4, h5⟩ := y
    exact ⟨T, x, z, h1, h2, h3, h4 xs q.1, h5 ys q.2⟩

/-! ### max(cell), min(cell), min(pairs), sorted(d) -/
section
variable {X : Cx}
theorem reads_int {h : Heap} {v : Value} {k : Int} {as : List Addr} (r : Reads h v (.int k) as) : ∃ t, v = .int k t := by
  cases r
  exact ⟨_, rfl⟩
theorem alike_ints2 (i j : Int) : PySem.W.AlikeAll [.int i, .int j] := ⟨fun x hx y hy => by
    have ex : x = .int i ∨ x = .int j := by simpa using hx
    have ey : y = .int i ∨ y = .int j := by simpa using hy
    rcases ex with rfl | rfl <;> rcases ey with rfl | rfl <;> rfl, fun x hx => by
    have ex : x = .int i ∨ x = .int j := by simpa using hx
    rcases ex with rfl | rfl <;> exact fun z => nomatch z⟩
theorem two_reads {pins : List (Addr × Obj)} {σ : L2.St} {H : Hp} {s : Shared} {a : Addr} {i j : Int} (I : Inv X pins σ H s) (h : SqT X.K H a [.int i, .int j]) :
    ∃ its as, s.heap.IsTuple a its ∧ ReadsAll s.heap its.toList [.int i, .int j] as := by
  obtain ⟨its, rv, pt, _⟩ := I.tuple h
  obtain ⟨as, r⟩ := Dp.readsAll I [.int i, .int j] _ its (.cons (.int _) (.cons (.int _) .nil)) rv
  exact ⟨its.toArray, as, pt, by simpa using r⟩
def rMax2 (K : PySem.W.Frag) (f : Int → Int → Int) : List V → Hp → VK → Prop := fun xs H Q => ∃ a i j, xs = [V.ref a] ∧ SqT K H a [.int i, .int j] ∧ Q (.int (f i j)) H
theorem cr_max2T (hc : X.calm = true) (hu : X.A.units + 9 < cLine) : CallR X (.builtin "max") (rMax2 X.K max) := by
  intro pins s σ H vs us Q I r h
  obtain ⟨a, i, j, rfl, hs, q⟩ := h
  obtain ⟨u, rfl, rx⟩ := vals1 r
  cases rx
  obtain ⟨its, as, pt, ra⟩ := two_reads I hs
  refine PySem.W.max_tuple_data (I.ok.hd hc) pt ra (alike_ints2 i j) (by simp [PyData.depthAll, PyData.depth]; omega) fun k v h' tk bs _ rv hk => ?_
  have e := PySem.W.maxD_ints i [j]
  have e2 : ([j] : List Int).map PyData.int = [.int j] := rfl
  rw [e2] at e
  rw [e] at rv
  obtain ⟨t, rfl⟩ := reads_int rv
  exact ⟨.int (max i j), H, I.kept hk, ⟨t, rfl⟩, q⟩
theorem cr_min2T (hc : X.calm = true) (hu : X.A.units + 9 < cLine) : CallR X (.builtin "min") (rMax2 X.K min) := by
  intro pins s σ H vs us Q I r h
  obtain ⟨a, i, j, rfl, hs, q⟩ := h
  obtain ⟨u, rfl, rx⟩ := vals1 r
  cases rx
  obtain ⟨its, as, pt, ra⟩ := two_reads I hs
  refine PySem.W.min_tuple_data (I.ok.hd hc) pt ra (alike_ints2 i j) (by simp [PyData.depthAll, PyData.depth]; omega) fun k v h' tk bs _ rv hk => ?_
  have e := PySem.W.minD_ints i [j]
  have e2 : ([j] : List Int).map PyData.int = [.int j] := rfl
  rw [e2] at e
  rw [e] at rv
  obtain ⟨t, rfl⟩ := reads_int rv
  exact ⟨.int (min i j), H, I.kept hk, ⟨t, rfl⟩, q⟩
/-- pairs (number, text) -/
abbrev PrAt (H : Hp) (a : Addr) (p : Int × Str) : Prop := H a = some (.tup [.int p.1, .str p.2])
def prD (p : Int × Str) : PyData := .tuple [.int p.1, .str p.2]
theorem prD_depths : ∀ ps : List (Int × Str), PyData.depthAll (ps.map prD) ≤ 1
  | [] => by simp [PyData.depthAll]
  | p :: ps => by
    have h1 := prD_depths ps
    simp only [List.map_cons, PyData.depthAll, prD, PyData.depth]
    omega
theorem prs_dp {K : PySem.W.Frag} {H : Hp} {as : List Addr} {ps : List (Int × Str)} (h : Paired (PrAt H) as ps) : DpAll K H (as.map V.ref) (ps.map prD) := by
  induction h with
  | nil => exact .nil
  | cons r t ih => exact .cons (.tup (SqT.of r) (.cons (.int _) (.cons (.str _) .nil))) ih
/-- min of a list of such: one of them -/
def rMinPr (K : PySem.W.Frag) : List V → Hp → VK → Prop := fun xs H Q => ∃ a as ps, xs = [V.ref a] ∧ SqL K H a (as.map V.ref) ∧ Paired (PrAt H) as ps ∧ as ≠ [] ∧ ∀ b, b ∈ as → Q (.ref b) H
theorem cr_minPr (hc : X.calm = true) (hu : X.A.units + 9 < cLine) : CallR X (.builtin "min") (rMinPr X.K) := by
  intro pins s σ H vs us Q I r h
  obtain ⟨a, as, ps, rfl, hs, hp, hne, q⟩ := h
  obtain ⟨u, rfl, rx⟩ := vals1 r
  cases rx
  obtain ⟨its, rv, pl, _⟩ := I.list hs
  obtain ⟨bs, ra⟩ := Dp.readsAll I (ps.map prD) _ its (prs_dp hp) rv
  obtain ⟨p, ps', rfl⟩ : ∃ p r, ps = p :: r := by
    cases ps with
    | nil => cases hp; exact absurd rfl hne
    | cons p r => exact ⟨p, r, rfl⟩
  have al : PySem.W.AlikeAll ((p :: ps').map prD) := ⟨fun x hx y hy => by
      obtain ⟨x', _, rfl⟩ := List.mem_map.mp hx
      obtain ⟨y', _, rfl⟩ := List.mem_map.mp hy
      rfl, fun x hx => by
      obtain ⟨x', _, rfl⟩ := List.mem_map.mp hx
      exact fun z => nomatch z⟩
  have dl := prD_depths (p :: ps')
  rw [List.map_cons] at ra al dl
  refine PySem.W.min_list_data (vs := its.toArray) (I.ok.hd hc) pl.isList (by simpa using ra) al (by omega) fun k v h' tk cs hv _ hk => ?_
  have hv' : its[k]? = some v := by simpa using hv
  rw [refs_at rv, List.getElem?_map] at hv'
  obtain ⟨b, hb, rfl⟩ := Option.map_eq_some_iff.mp hv'
  exact ⟨.ref b, H, I.kept hk, rfl, q b (List.mem_of_getElem? hb)⟩
end
end TM
end
/-! ## TOp3 -/
section
namespace TM
open PySem PySem.Spec PyProof.Rows L2

/-! ### sorted(d), d a dict of places -/
def pD (p : Pl) : PyData := .tuple [cD p.1, .tuple [.int p.2.1.1, .int p.2.1.2.1, .int p.2.1.2.2], .int p.2.2]
theorem pD_depth (p : Pl) : (pD p).depth = 2 := by simp [pD, cD, PyData.depth, PyData.depthAll]
section
variable {P : Program} {w : World} {H : Hp} {h : Heap} {a : Addr}
theorem int_reads {i : Int} {u : Value} (r : RelV (.int i) u) : Reads h u (.int i) [] := by
  obtain ⟨t, rfl⟩ := r
  exact .int i t
theorem cell_reads0 {c : Cell} (ok : HOk P w H h) (e : CellAt H a c) : Reads h (.ref a) (cD c) [] := by
  obtain ⟨its, o, n, rv, h1, h2, h3⟩ := tup_obj ok e
  cases rv with
  | cons r1 t1 =>
    cases t1 with
    | cons r2 t2 =>
      cases t2
      exact .tuple h1 h2 h3 (by simpa using (ReadsAll.cons (int_reads r1) (ReadsAll.cons (int_reads r2) ReadsAll.nil) : ReadsAll h [_, _] [PyData.int c.1, PyData.int c.2] ([] ++ ([] ++ []))))
theorem ly_reads0 {y : Ly} (ok : HOk P w H h) (e : LyAt H a y) : Reads h (.ref a) (.tuple [.int y.1, .int y.2.1, .int y.2.2]) [] := by
  obtain ⟨its, o, n, rv, h1, h2, h3⟩ := tup_obj ok e
  cases rv with
  | cons r1 t1 =>
    cases t1 with
    | cons r2 t2 =>
      cases t2 with
      | cons r3 t3 =>
        cases t3
        exact .tuple h1 h2 h3 (by simpa using (ReadsAll.cons (int_reads r1) (ReadsAll.cons (int_reads r2) (ReadsAll.cons (int_reads r3) ReadsAll.nil)) : ReadsAll h [_, _, _] [PyData.int y.1, PyData.int y.2.1, PyData.int y.2.2] ([] ++ ([] ++ ([] ++ [])))))
theorem pl_reads0 {p : Pl} (ok : HOk P w H h) (e : PlAt H a p) : Reads h (.ref a) (pD p) [] := by
  obtain ⟨c, l, e0, e1, e2⟩ := e
  obtain ⟨its, o, n, rv, h1, h2, h3⟩ := tup_obj ok e0
  cases rv with
  | cons r1 t1 =>
    cases t1 with
    | cons r2 t2 =>
      cases t2 with
      | cons r3 t3 =>
        cases t3
        cases r1
        cases r2
        exact .tuple h1 h2 h3 (by simpa using (ReadsAll.cons (cell_reads0 ok e1) (ReadsAll.cons (ly_reads0 ok e2) (ReadsAll.cons (int_reads r3) ReadsAll.nil)) : ReadsAll h [_, _, _] [cD p.1, _, _] ([] ++ ([] ++ ([] ++ [])))))
end
theorem each_vals : ∀ {out : List Value} {bs : List Ent}, PySem.W.EachIs (fun v (x : Ent) => v = .ref x.2.1) out bs → Vals (bs.map fun x => V.ref x.2.1) out
  | _, _, .nil => .nil
  | _, _, .cons e t => .cons (by rw [e]; rfl) (each_vals t)
theorem each_of {R : Value → Ent → Prop} : ∀ {vs : List Value} {bs : List Ent}, vs.length = bs.length → (∀ (i : Nat) (x : Ent), bs[i]? = some x → ∃ v, vs[i]? = some v ∧ R v x) → PySem.W.EachIs R vs bs
  | [], [], _, _ => .nil
  | [], _ :: _, e, _ => by simp at e
  | _ :: _, [], e, _ => by simp at e
  | v :: vs, b :: bs, e, h => by
    obtain ⟨v', e', r⟩ := h 0 b rfl
    cases e'
    exact .cons r (each_of (by simpa using e) fun i x hx => by
      obtain ⟨u, e2, r2⟩ := h (i + 1) x (by simpa using hx)
      exact ⟨u, by simpa using e2, r2⟩)
section
variable {X : Cx}
def rSortPD (X : Cx) : List V → Hp → VK → Prop := fun vs H Q => ∃ d xs, vs = [V.ref d] ∧ Rd H d (PD X.prog X.w d xs) ∧ PKeys H xs ∧ ∀ ys p, ys.length = xs.length → H p = none → Q (.ref p) (upd H p (.lst ys))
theorem cr_sortPD (hc : X.calm = true) (hu : X.A.units + 9 < cLine) : CallR X (.builtin "sorted") (rSortPD X) := by
  intro pins s σ H vs us Q I r h
  obtain ⟨d, xs, rfl, hd, hk, q⟩ := h
  obtain ⟨u, rfl, rx⟩ := vals1 r
  cases rx
  obtain ⟨z, lo, us, rel, o, es, ep, ho, hx, hdt, he, _⟩ := pd_phi I.hok hd
  obtain ⟨hsz, ent⟩ := entries_get rel he
  have raw : s.heap.DictRaw d es ep := ⟨o, ho, hx, hdt⟩
  refine Calls.call_function_entry PyProof.Rows.kind_sorted PyProof.Rows.plain_sorted PyProof.Rows.entry_sorted (PyProof.Rows.args_sorted1 _) ?_
  unfold Builtin.«sorted»
  refine wpAny_bind (m := checkCount "sorted" 1 1 _) (wpAny_pure ?_)
  refine wpAny_bind (PySem.W.kdu_collect (A := X.A.in1) (KdlSrc.rawDict (ep := ep) lo) (I.ok.hd hc) raw (by omega) fun h' tk acc hk' hacc => ?_)
  have hal : acc.toList.length = xs.length := by rw [Array.length_toList, hacc.1, hsz]
  have at_ : ∀ (i : Nat) (x : Ent), xs[i]? = some x → acc.toList[i]? = some (.ref x.2.1) := fun i x hx => by
    obtain ⟨en, hen, hkey, _⟩ := ent i x hx
    have hi : i < acc.toList.length := by rw [hal]; exact (List.getElem?_eq_some_iff.mp hx).1
    obtain ⟨hi', e⟩ := hacc.2 i acc.toList[i] (by rw [← Array.getElem?_toList]; exact List.getElem?_eq_getElem hi)
    rw [List.getElem?_eq_getElem hi, e]
    have e0 : es[i] = en := Option.some.inj ((Array.getElem?_eq_getElem hi').symm.trans hen)
    rw [e0, hkey]
  have J : Inv X pins σ H { s with heap := h', toks := tk } := I.kept hk'
  refine wpAny_bind (wpAny_newList ?_ (by rw [hal]; exact z))
  have hoL : (h'.push (seqObj "list" acc.toList.toArray 0)).get? h'.objs.size = some (seqObj "list" acc.toList.toArray 0) := Heap.get?_push_size _ rfl
  show wpAny _ _ _ _ _ { s with heap := h'.push (seqObj "list" acc.toList.toArray 0), toks := tk }
  refine wpAny_bind (wpAny_holding (PySem.W.list_sort_data (s := { s with heap := h'.push (seqObj "list" acc.toList.toArray 0), toks := tk }) (bs := xs) (enc := fun x : Ent => pD x.1) (R := fun v (x : Ent) => v = .ref x.2.1) hoL
    (each_of hal fun i x hx => ⟨_, at_ i x hx, rfl⟩) (each_of hal fun i x hx => ⟨_, at_ i x hx, [], PyProof.Rows.Reads.keeps (fun _ _ e => Heap.get?_push_of_some _ e) (pl_reads0 J.hok (hk x (List.mem_of_getElem? hx))), List.not_mem_nil⟩)
    (PySem.W.AllAlike.of fun b b' => by simp [pD, cD, PySem.W.alike, PySem.W.alikeAll]) (PySem.W.Sortable.tuples fun b => ⟨_, _, rfl⟩) z (fun b _ => by rw [pD_depth]; show X.A.units + 1 + 1 + 2 < cLine; omega) fun out hl er => ?_))
  obtain ⟨e', he'⟩ := PyProof.Rows.sortedHeap_at (vs := acc.toList) (out := out.toArray) hoL
  have rv := each_vals er
  have hlen : ((xs.mergeSort (PySem.W.dataLe false fun x : Ent => pD x.1)).map fun x => V.ref x.2.1).length = xs.length := by rw [List.length_map, List.length_mergeSort]
  refine wpAny_pure ⟨_, rfl, .ref h'.objs.size, upd H h'.objs.size (.lst ((xs.mergeSort (PySem.W.dataLe false fun x : Ent => pD x.1)).map fun x => V.ref x.2.1)), J.laid (t' := tk) (fun b u e => ?_) (Nat.le_refl _)
    (show ObjOk X.prog X.w _ _ _ (.lst _) from ⟨by rw [hlen]; exact z, out, e', rv, he'⟩), rfl, q _ _ hlen (J.hok.fresh (Nat.le_refl _))⟩
  have hb : b < h'.objs.size := Heap.lt_size e
  rw [PyProof.Rows.sortedHeap_old (Nat.ne_of_lt hb) (by rw [size_push']; exact Nat.lt_succ_of_lt hb)]
  exact Heap.get?_push_of_some _ e

/-! ### text[::-1] -/
def tRevS (te : TE) : TE := fun σ H Q => te σ H fun x H1 => ∃ z, x = .str z ∧ z.length ≤ sizeLine ∧ Q (.str ⟨z.cps.reverse⟩) H1
theorem rev_picked (x : Str) (u : Tok) : ((slicePicked x none none (some (-1, u))).filterMap (x.cps[·]?)).toArray = x.cps.reverse := by
  have e : slicePicked x none none (some (-1, u)) = (List.range x.cps.size).reverse := by
    show sliceRange (((x.cps.size : Nat) : Int) - 1) (-1) (-1) = _
    rw [PySem.W.krv_sliceRange, PySem.W.krv_range]
  rw [e, List.filterMap_reverse, PySem.W.krv_all, ← Array.toList_reverse, Array.toArray_toList]
theorem pe_revS {e : Expr} {te : TE} {k : Nat} {p1 p2 p3 pos : Pos} (he : PE X e te) : PE X (.Subscript e (.Slice none none (some (.UnaryOp .USub (.Constant (.int 1) k p1) p2)) p3) pos) (tRevS te) := by
  refine ⟨fun pins s σ H Q I h => ?_⟩
  refine Subscript_ (thn (he.run pins s σ H _ I h) fun v s1 ⟨x, H1, J1, r1, z, ex, hz, q1⟩ => ?_)
  subst ex
  obtain ⟨t, rfl⟩ := r1
  refine wpAny_Slice (thn (po_none.run pins s1 σ H1 (fun o H2 => o = none ∧ H2 = H1) J1 ⟨rfl, rfl⟩) fun vl s2 ⟨l, H2, J2, pl, el, e2⟩ => ?_)
  subst el e2
  refine thn (po_none.run pins s2 σ H2 (fun o H3 => o = none ∧ H3 = H2) J2 ⟨rfl, rfl⟩) fun vu s3 ⟨u, H3, J3, pu, eu, e3⟩ => ?_
  subst eu e3
  refine thn ((po_some (pe_un un_neg pe_int)).run pins s3 σ H3 (fun o H4 => o = some (-1) ∧ H4 = H3) J3 ⟨1, rfl, -1, rfl, rfl, rfl⟩) fun vs s4 ⟨o, H4, J4, ps, eo, e4⟩ => ?_
  subst eo e4
  cases pl
  cases pu
  cases ps with
  | int _ tk =>
    have J5 : Inv X pins σ H4 { s4 with heap := s4.heap.push { cls := .type "slice", data := .fields #[.none, .none, .int (-1) tk] } } := J4.kept (t' := s4.toks) fun b ob q => Heap.get?_push_of_some _ q
    show wpAny (model X.prog X.w) X.A (subscriptTail e (.Slice none none (some (.UnaryOp .USub (.Constant (.int 1) k p1) p2)) p3) (.str z t) (.ref s4.heap.objs.size)) (EP X pins σ Q) X.xe { s4 with heap := s4.heap.push { cls := .type "slice", data := .fields #[.none, .none, .int (-1) tk] } }
    refine tail_any (ops := [.ref s4.heap.objs.size, .str z t]) (typeIs_str _ z t) F.slot_str_getitem.lookup ?_ (by with_unfolding_all rfl)
    refine wpAny_getItem_str_slice (l := none) (u := none) (st := some (-1, tk)) ⟨_, Heap.get?_push_size _ rfl, rfl, rfl⟩ (by show ((-1 : Int) == 0) = false; decide) ?_
    unfold sliceMade
    rw [rev_picked]
    refine post_val_or_str ?_
    rw [if_neg (by simp)]
    exact ⟨by show z.cps.reverse.size ≤ sizeLine; rw [Array.size_reverse]; exact hz, fun t' c => ⟨.str ⟨z.cps.reverse⟩, H4, J5.tok c, ⟨t', rfl⟩, q1⟩⟩
end
end TM
end
/-! ## TOp4 -/
section
namespace TM
open PySem PySem.Spec PyProof.Rows L2
/-! ### {e for x in xs}, e a number -/
/-- one turn's end: the number is added to the set at D -/
def AddTo (w : World) (D : Addr) (Nx : Hp → Prop) : VK := fun y H => ∃ k S n, y = .int k ∧ H D = some (SetO w D S n) ∧ n + 1 < scanBound ∧ Nx (upd H D (SetO w D (fun j => S j || decide (j = k)) (if S k = true then n else n + 1)))
def noInts (w : World) (D : Addr) : HO := SetO w D (fun _ => false) 0
/-- the loop's state W by turn and measure, the new set at D -/
def tSetI (w : World) (wi : TI) (g : TG) (te : TE) (vs : List Nat) : TE := fun σ H Q => wi σ H fun J G => ∀ D, G D = none → ∃ W : Nat → Nat → Hp → Prop, (∃ m, W 0 m (upd G D (noInts w D))) ∧
  ∀ i m H, W i m H → (J.stop i H ∧ Q (.ref D) H) ∨ (J.go i H ∧ ∃ Nx : Hp → Prop, (∀ Z, Nx Z → ∃ k, k < m ∧ W (i + 1) k Z) ∧ ∀ x Z, J.yld i H x Z → g x (wipe σ vs) Z fun τ Y => wipe τ vs = wipe σ vs ∧ te τ Y (AddTo w D Nx))
section
variable {X : Cx}
theorem add_int {pins : List (Addr × Obj)} {σ : L2.St} {H : Hp} {s : Shared} {D : Addr} {v y : _} {E : Value → Shared → Prop} {Nx : Hp → Prop} {R : Value → Shared → Prop} (I : Inv X pins σ H s) (r : RelV y v) (a : AddTo X.w D Nx y H)
    (fin : ∀ (Z : Hp) (t : Shared), Inv X pins σ Z t → Nx Z → R .none t) : wpAny (model X.prog X.w) X.A (call (.builtin "set.add") [.ref D, v]) R E s := by
  obtain ⟨k, S, n, rfl, hD, hz, nx⟩ := a
  obtain ⟨t, rfl⟩ := r
  refine setR_add (setO_get I hD) hz fun h' sb new => fin _ _ ?_ nx
  refine I.write (e := D) (t' := s.toks + 1) ?_ (.inl rfl) (fun b u ne q => (sb.2 b ne).trans q) ?_ (setO_new new)
  · rw [hD]
    exact True.intro
  · obtain ⟨ob, _, _, _, h0, _⟩ := new
    exact ⟨ob, h0⟩
abbrev BlkAll (X : Cx) (scope : Scope) (F : Cx → Prop) : Prop := ∀ (s : Shared) (H : Hp) (C : Addr) (cl : List (Str × Addr)) (fp : List Addr), F (X.blk s H scope (compEnvC scope cl C X.env) fp)
theorem pe_setI {elt tg iter : Expr} {scope : Scope} {own : List (Str × Nat)} {pos : Pos} {wi : TI} {g : TG} {te : TE} (calm : X.calm = true) (nd : X.N.Nodup) (pi : PI X tg iter wi) (ok : BlkOk X.N X.env.scope scope own)
    (hg : BlkAll X scope fun Y => PG Y tg g) (he : BlkAll X scope fun Y => PE Y elt te) (folds : ∀ x, foldedSetIterable iter X.env x = pure x := by intro _; rfl) :
    PE X (.SetComp elt [⟨tg, iter, [], 0⟩] scope pos) (tSetI X.w wi g te (own.map (·.2))) := by
  refine ⟨fun pins s σ H Q I h => ?_⟩
  rw [PpSet.eval_SetComp]
  have free : ∀ y ∈ scope.names, y.2 = .free → ∃ c, X.env.cells.lookup y.1 = some c := fun y m e => I.ok.has _ (ok.free y m e)
  refine wpAny_comprehension_free (use := none) rfl folds (closure_ok free) ok.kind (fun y m e => (ok.uniq y m).trans (congrArg some e)) ?_
  refine thn (pi.run pins s σ H _ I h) fun xv sA hA => thn hA fun itv sB hB => ?_
  obtain ⟨it, fp, tn, J, G, rfl, IB, T, stB, fpB, hW⟩ := hB
  refine PpSet.newSet_ok (newEnv_comp ?_)
  generalize eD : sB.heap.objs.size = D
  obtain ⟨W, ⟨m0, start⟩, turn⟩ := hW D (IB.hok.fresh (Nat.le_of_eq eD))
  generalize eC : ({ sB with heap := sB.heap.push { cls := .type "set", dict := none, data := .set #[] 0 (.fresh 0 0 (!X.w.params.followText "set-order")) } } : Shared) = sC
  have hC : sC.heap = sB.heap.push { cls := .type "set", dict := none, data := .set #[] 0 (.fresh 0 0 (!X.w.params.followText "set-order")) } := by rw [← eC]
  have stays : ∀ b o, sB.heap.get? b = some o → sC.heap.get? b = some o := fun b o q => by
    rw [hC]
    exact Heap.get?_push_of_some _ q
  have IC : Inv X pins σ (upd G D (noInts X.w D)) sC := by
    subst eC
    subst eD
    exact IB.laid (t' := sB.toks) stays (Nat.le_refl _) (setO_new (setR_fresh X.w))
  have inB : ∀ b ∈ fp, b < sB.heap.objs.size := fun b m => let ⟨o, q, _⟩ := T.obj _ _ stB b m; Heap.lt_size q
  have fpC : ∀ b ∈ fp, FpOk X pins (upd G D (noInts X.w D)) b ∧ b < sC.heap.objs.size := fun b m => by
    have lt := inB b m
    refine ⟨⟨?_, (fpB b m).2⟩, ?_⟩
    · rw [upd_ne (fun z => Nat.ne_of_lt lt (z.trans eD.symm))]
      exact (fpB b m).1
    · rw [hC, Heap.size_push]
      exact Nat.lt_succ_of_lt lt
  have stC : tn 0 sC.heap := T.keep _ _ _ stB fun b _ o q => stays b o q
  have IE := block_start IC ok nd fpC
  -- the block's own context, by one name
  have gB := hg sC (upd G D (noInts X.w D)) sC.heap.objs.size (cellsFrom (sC.heap.objs.size + 1) scope.names (cloFrom X.env.cells scope.names [])) fp
  have eB := he sC (upd G D (noInts X.w D)) sC.heap.objs.size (cellsFrom (sC.heap.objs.size + 1) scope.names (cloFrom X.env.cells scope.names [])) fp
  show codeAny _ _ (.compStart _ 0 (.ref it) (.ref D) (compEnvC scope (cellsFrom (sC.heap.objs.size + 1) scope.names (cloFrom X.env.cells scope.names [])) sC.heap.objs.size X.env)) (compPost (model X.prog X.w) X.A X.xe none _ (.ref D) sC.heap.objs.size) { sC with heap := pushCells (sC.heap.push { cls := .type "dict", data := .dict #[] }) scope.names }
  have none0 : ∀ b ∈ fp, (upd G D (noInts X.w D)) b = none := fun b m => (fpC b m).1.1
  generalize eE : compEnvC scope (cellsFrom (sC.heap.objs.size + 1) scope.names (cloFrom X.env.cells scope.names [])) sC.heap.objs.size X.env = ce at IE gB eB ⊢
  have ceL : ce.locals = sC.heap.objs.size := by rw [← eE]; rfl
  generalize eG : upd G D (noInts X.w D) = GC at IC IE gB eB start none0 fpC
  generalize eS : ({ sC with heap := pushCells (sC.heap.push { cls := .type "dict", data := .dict #[] }) scope.names } : Shared) = sE at IE ⊢
  have stE : tn 0 sE.heap := T.keep _ _ _ stC fun b _ o q => by
    rw [← eS]
    exact pushCells_keeps _ _ _ _ (Heap.get?_push_of_some _ q)
  have own0 : ∀ {τ : L2.St} {Z : Hp} {t : Shared}, Inv (X.blk sC GC scope ce fp) [] τ Z t → (∀ b ∈ fp, Z b = none) → ∀ b ∈ fp, FpOk (X.blk sC GC scope ce fp) [] Z b := fun {τ Z t} IZ hn b m =>
    ⟨hn b m, (IZ.ok.exf b m).1, IZ.ok.exfs b m, .inl m, fun x c q => (IZ.ok.exf b m).2 x c q, fun p q => by
      have : p ∈ ([] : List (Addr × Obj)) := by simpa using q
      exact nomatch this⟩
  refine PpSet.codeAny_compStart_set ?loop (T.self X.A 0 _ _ _ stE ?loop)
  refine PpSet.compLoopS_any (fun n t => ∃ i Z, Inv (X.blk sC GC scope ce fp) [] (wipe σ (own.map (·.2))) Z t ∧ tn i t.heap ∧ (∀ b ∈ fp, Z b = none) ∧ W i n Z) ?_ m0 ⟨0, GC, IE, stE, none0, start⟩
  rintro n t1 ⟨i, Z1, I1, st1, n1, w1⟩
  rcases turn i n Z1 w1 with ⟨stop, fin⟩ | ⟨go, Nx, next, step⟩
  · -- the iterator ends: back among the def's names
    refine thnF (T.done (X.blk sC GC scope ce fp) rfl rfl rfl calm i [] t1 _ Z1 (fun _ _ => False) I1 (own0 I1 n1) st1 stop) fun r t2 hr => ?_
    obtain ⟨rfl, I2⟩ := hr
    have back : Inv X pins σ Z1 t2 := IC.call' (ch := fp) I2.os I2.base I2.hok I2.bare fun b m => ⟨(fpC b m).1.2.2.2.1, (fpC b m).1.2.1, (fpC b m).1.2.2.2.2.1, (fpC b m).1.2.2.2.2.2⟩
    obtain ⟨m, ns, _⟩ := I2.loc
    have ns : t2.heap.Ns ce.locals m := ns
    have nl : Z1 ce.locals = none := I2.free
    rw [ceL] at ns nl
    obtain ⟨f0, f1, f2, f3, f4, f5⟩ := IC.fpOk (Nat.le_refl _) nl
    exact ⟨m, ns, fun h'' sb => ⟨.ref D, Z1, back.turned (t' := t2.toks) (fun b o ne q => (sb.2 b ne).trans q) f0 f1 f3 f4 f5, rfl, fin⟩⟩
  · refine thnF (T.item (X.blk sC GC scope ce fp) rfl rfl rfl calm i [] t1 _ Z1 (fun _ _ => False) I1 (own0 I1 n1) st1 go) fun r t2 hr => ?_
    obtain ⟨u, rfl, h2⟩ := hr
    refine thnF h2 fun _ t3 h3 => ?_
    obtain ⟨x, Z3, I3, r3, y3, st3, n3⟩ := h3
    have P3 := I3.pinned (own0 I3 n3) (T.obj _ _ st3)
    refine thnF (gB.run _ t3 _ Z3 x u _ P3 r3 (step x Z3 y3)) fun _ t4 h4 => ?_
    obtain ⟨τ, Z4, I4, wτ, q4⟩ := h4
    refine wpAny_pure ?_
    show if true = true then _ else _
    rw [if_pos rfl]
    refine thnF (eB.run _ t4 τ Z4 _ I4 q4) fun z t5 h5 => ?_
    obtain ⟨yv, Z5, I5, r5, add⟩ := h5
    refine add_int (X := X.blk sC GC scope ce fp) I5 r5 add fun Z6 t6 I6 nx => ?_
    obtain ⟨k, lt, w6⟩ := next Z6 nx
    have pinned : ∀ b ∈ fp, ∀ o, t3.heap.get? b = some o → t6.heap.get? b = some o ∧ Z6 b = none := fun b m o q => by
      have := I6.pin (b, o) (List.mem_append_right _ (List.mem_append_right _ (mem_pinsAt m q)))
      exact ⟨this.1, this.2.1⟩
    refine ⟨k, lt, i + 1, Z6, (I6.unpinned (pins := [])).weak (by rw [← wτ, wipe_length]) (fun j v q => ?_), T.keep _ _ _ st3 fun b m o q => (pinned b m o q).1, fun b m => ?_, w6⟩
    · rw [← wτ] at q
      exact (wipe_some q).1
    · obtain ⟨o, q, _⟩ := T.obj _ _ st3 b m
      exact (pinned b m o q).2
end
end TM
end
/-! ## TTxt -/
section
namespace TM
open PySem PySem.Spec PyProof.Rows L2
/-! ### the text, by places (printed by gen_text.py) -/
def top (i : Nat) : Stmt := PySem.Challenge.pw_tumblemarks_k27_whole_brought_and_brough.main.body.getD i (.Pass ⟨0, 0, 0, 0⟩)
abbrev t_is_whole : Stmt := top 15
abbrev t_is_among : Stmt := top 16
abbrev t_are_some : Stmt := top 17
abbrev t_rises : Stmt := top 18
abbrev t_is_cell : Stmt := top 19
abbrev t_is_floor : Stmt := top 20
abbrev t_need_floor : Stmt := top 21
abbrev t_is_cell_of : Stmt := top 22
abbrev t_need_cell : Stmt := top 23
abbrev t_is_lying : Stmt := top 24
abbrev t_need_lying : Stmt := top 25
abbrev t_rolled : Stmt := top 26
abbrev t_need_row : Stmt := top 27
abbrev t_beside : Stmt := top 28
abbrev t_off_at : Stmt := top 29
abbrev t_need_let : Stmt := top 30
abbrev t_stand_by : Stmt := top 31
abbrev t_stand_behind : Stmt := top 32
abbrev t_is_stand : Stmt := top 33
abbrev t_need_stand : Stmt := top 34
abbrev t_spots_of : Stmt := top 37
abbrev t_need_rolls : Stmt := top 38
abbrev t_traded : Stmt := top 39
abbrev t_turned_round : Stmt := top 40
abbrev t_exchange_by : Stmt := top 41
abbrev t_exchange : Stmt := top 42
abbrev t_moved : Stmt := top 45
abbrev t_spread : Stmt := top 46
abbrev t_need_spot : Stmt := top 50
abbrev t_need_wish : Stmt := top 51
abbrev t_bring_by : Stmt := top 52
abbrev t_bring : Stmt := top 53
abbrev t_does_bring : Stmt := top 54
abbrev t_is_place : Stmt := top 55
abbrev t_is_closed : Stmt := top 56
abbrev t_shows_bring : Stmt := top 57
abbrev t_may_come : Stmt := top 58
abbrev t_still : Stmt := top 59
abbrev t_undoing : Stmt := top 62
abbrev t_L_cell_at : Stmt := top 64
abbrev t_L_pen : Stmt := top 65
abbrev t_L_draw : Stmt := top 66
abbrev t_L_pick : Stmt := top 67
abbrev t_L_beside : Stmt := top 68
abbrev t_L_tip : Stmt := top 69
abbrev t_L_drawn_floor : Stmt := top 70
abbrev t_L_drawn_stand : Stmt := top 71
abbrev t_L_free : Stmt := top 72
abbrev t_L_drawn_row : Stmt := top 73
abbrev t_L_all_spots : Stmt := top 74
abbrev t_L_right : Stmt := top 75
abbrev t_law : Stmt := top 76
abbrev N_is_whole : List Str := ["thing"]
theorem sc_is_whole : FnScope N_is_whole ["thing"] (defScope t_is_whole) := ⟨rfl, rfl, rfl, by decide +kernel, rfl, by decide +kernel, by decide +kernel⟩
abbrev N_is_among : List Str := ["thing", "low", "high"]
theorem sc_is_among : FnScope N_is_among ["thing", "low", "high"] (defScope t_is_among) := ⟨rfl, rfl, rfl, by decide +kernel, rfl, by decide +kernel, by decide +kernel⟩
abbrev N_are_some : List Str := ["thing", "low", "high"]
theorem sc_are_some : FnScope N_are_some ["thing", "low", "high"] (defScope t_are_some) := ⟨rfl, rfl, rfl, by decide +kernel, rfl, by decide +kernel, by decide +kernel⟩
abbrev N_rises : List Str := ["thing", "one", "later"]
theorem sc_rises : FnScope N_rises ["thing"] (defScope t_rises) := ⟨rfl, rfl, rfl, by decide +kernel, rfl, by decide +kernel, by decide +kernel⟩
abbrev N_is_cell : List Str := ["thing", "one"]
theorem sc_is_cell : FnScope N_is_cell ["thing"] (defScope t_is_cell) := ⟨rfl, rfl, rfl, by decide +kernel, rfl, by decide +kernel, by decide +kernel⟩
abbrev N_is_floor : List Str := ["thing", "cell"]
theorem sc_is_floor : FnScope N_is_floor ["thing"] (defScope t_is_floor) := ⟨rfl, rfl, rfl, by decide +kernel, rfl, by decide +kernel, by decide +kernel⟩
abbrev N_need_floor : List Str := ["thing"]
theorem sc_need_floor : FnScope N_need_floor ["thing"] (defScope t_need_floor) := ⟨rfl, rfl, rfl, by decide +kernel, rfl, by decide +kernel, by decide +kernel⟩
abbrev N_is_cell_of : List Str := ["floor", "thing"]
theorem sc_is_cell_of : FnScope N_is_cell_of ["floor", "thing"] (defScope t_is_cell_of) := ⟨rfl, rfl, rfl, by decide +kernel, rfl, by decide +kernel, by decide +kernel⟩
abbrev N_need_cell : List Str := ["floor", "thing"]
theorem sc_need_cell : FnScope N_need_cell ["floor", "thing"] (defScope t_need_cell) := ⟨rfl, rfl, rfl, by decide +kernel, rfl, by decide +kernel, by decide +kernel⟩
abbrev N_is_lying : List Str := ["thing", "low", "north", "east", "odd", "face"]
theorem sc_is_lying : FnScope N_is_lying ["thing"] (defScope t_is_lying) := ⟨rfl, rfl, rfl, by decide +kernel, rfl, by decide +kernel, by decide +kernel⟩
abbrev N_need_lying : List Str := ["thing"]
theorem sc_need_lying : FnScope N_need_lying ["thing"] (defScope t_need_lying) := ⟨rfl, rfl, rfl, by decide +kernel, rfl, by decide +kernel, by decide +kernel⟩
abbrev N_rolled : List Str := ["lying", "letter", "low", "north", "east"]
theorem sc_rolled : FnScope N_rolled ["lying", "letter"] (defScope t_rolled) := ⟨rfl, rfl, rfl, by decide +kernel, rfl, by decide +kernel, by decide +kernel⟩
abbrev N_need_row : List Str := ["thing", "letter"]
theorem sc_need_row : FnScope N_need_row ["thing"] (defScope t_need_row) := ⟨rfl, rfl, rfl, by decide +kernel, rfl, by decide +kernel, by decide +kernel⟩
abbrev N_beside : List Str := ["cell", "letter", "across", "up"]
theorem sc_beside : FnScope N_beside ["cell", "letter"] (defScope t_beside) := ⟨rfl, rfl, rfl, by decide +kernel, rfl, by decide +kernel, by decide +kernel⟩
abbrev N_off_at : List Str := ["floor", "cell", "row", "number", "letter"]
theorem sc_off_at : FnScope N_off_at ["floor", "cell", "row"] (defScope t_off_at) := ⟨rfl, rfl, rfl, by decide +kernel, rfl, by decide +kernel, by decide +kernel⟩
abbrev N_need_let : List Str := ["floor", "cell", "row"]
theorem sc_need_let : FnScope N_need_let ["floor", "cell", "row"] (defScope t_need_let) := ⟨rfl, rfl, rfl, by decide +kernel, rfl, by decide +kernel, by decide +kernel⟩
abbrev N_stand_by : List Str := ["stand", "row", "cell", "lying", "letter"]
theorem sc_stand_by : FnScope N_stand_by ["stand", "row"] (defScope t_stand_by) := ⟨rfl, rfl, rfl, by decide +kernel, rfl, by decide +kernel, by decide +kernel⟩
abbrev N_stand_behind : List Str := ["floor", "cell", "lying", "row"]
theorem sc_stand_behind : FnScope N_stand_behind ["floor", "cell", "lying", "row"] (defScope t_stand_behind) := ⟨rfl, rfl, rfl, by decide +kernel, rfl, by decide +kernel, by decide +kernel⟩
abbrev N_is_stand : List Str := ["floor", "thing"]
theorem sc_is_stand : FnScope N_is_stand ["floor", "thing"] (defScope t_is_stand) := ⟨rfl, rfl, rfl, by decide +kernel, rfl, by decide +kernel, by decide +kernel⟩
abbrev N_need_stand : List Str := ["floor", "thing"]
theorem sc_need_stand : FnScope N_need_stand ["floor", "thing"] (defScope t_need_stand) := ⟨rfl, rfl, rfl, by decide +kernel, rfl, by decide +kernel, by decide +kernel⟩
abbrev N_spots_of : List Str := ["floor"]
theorem sc_spots_of : FnScope N_spots_of ["floor"] (defScope t_spots_of) := ⟨rfl, rfl, rfl, by decide +kernel, rfl, by decide +kernel, by decide +kernel⟩
abbrev N_need_rolls : List Str := ["floor", "stand", "row"]
theorem sc_need_rolls : FnScope N_need_rolls ["floor", "stand", "row"] (defScope t_need_rolls) := ⟨rfl, rfl, rfl, by decide +kernel, rfl, by decide +kernel, by decide +kernel⟩
abbrev N_traded : List Str := ["floor", "stand", "row", "marks", "found", "cell", "lying", "letter", "here", "low"]
theorem sc_traded : FnScope N_traded ["floor", "stand", "row", "marks"] (defScope t_traded) := ⟨rfl, rfl, rfl, by decide +kernel, rfl, by decide +kernel, by decide +kernel⟩
abbrev N_turned_round : List Str := ["moves", "spot"]
theorem sc_turned_round : FnScope N_turned_round ["moves"] (defScope t_turned_round) := ⟨rfl, rfl, rfl, by decide +kernel, rfl, by decide +kernel, by decide +kernel⟩
abbrev N_exchange_by : List Str := ["floor", "stand", "row"]
theorem sc_exchange_by : FnScope N_exchange_by ["floor", "stand", "row"] (defScope t_exchange_by) := ⟨rfl, rfl, rfl, by decide +kernel, rfl, by decide +kernel, by decide +kernel⟩
abbrev N_exchange : List Str := ["floor", "stand", "row"]
theorem sc_exchange : FnScope N_exchange ["floor", "stand", "row"] (defScope t_exchange) := ⟨rfl, rfl, rfl, by decide +kernel, rfl, by decide +kernel, by decide +kernel⟩
abbrev N_moved : List Str := ["floor", "place", "letter", "cell", "lying", "spot", "own"]
theorem sc_moved : FnScope N_moved ["floor", "place", "letter"] (defScope t_moved) := ⟨rfl, rfl, rfl, by decide +kernel, rfl, by decide +kernel, by decide +kernel⟩
abbrev N_spread : List Str := ["floor", "place", "found", "waiting", "later", "one", "letter", "other"]
theorem sc_spread : FnScope N_spread ["floor", "place"] (defScope t_spread) := ⟨rfl, rfl, rfl, by decide +kernel, rfl, by decide +kernel, by decide +kernel⟩
abbrev N_need_spot : List Str := ["floor", "thing"]
theorem sc_need_spot : FnScope N_need_spot ["floor", "thing"] (defScope t_need_spot) := ⟨rfl, rfl, rfl, by decide +kernel, rfl, by decide +kernel, by decide +kernel⟩
abbrev N_need_wish : List Str := ["floor", "stand", "spot", "to"]
theorem sc_need_wish : FnScope N_need_wish ["floor", "stand", "spot", "to"] (defScope t_need_wish) := ⟨rfl, rfl, rfl, by decide +kernel, rfl, by decide +kernel, by decide +kernel⟩
abbrev N_bring_by : List Str := ["floor", "stand", "spot", "to", "found", "rows", "place", "row"]
theorem sc_bring_by : FnScope N_bring_by ["floor", "stand", "spot", "to"] (defScope t_bring_by) := ⟨rfl, rfl, rfl, by decide +kernel, rfl, by decide +kernel, by decide +kernel⟩
abbrev N_bring : List Str := ["floor", "stand", "spot", "to"]
theorem sc_bring : FnScope N_bring ["floor", "stand", "spot", "to"] (defScope t_bring) := ⟨rfl, rfl, rfl, by decide +kernel, rfl, by decide +kernel, by decide +kernel⟩
abbrev N_does_bring : List Str := ["floor", "stand", "spot", "to", "row", "place", "letter"]
theorem sc_does_bring : FnScope N_does_bring ["floor", "stand", "spot", "to", "row"] (defScope t_does_bring) := ⟨rfl, rfl, rfl, by decide +kernel, rfl, by decide +kernel, by decide +kernel⟩
abbrev N_is_place : List Str := ["floor", "thing"]
theorem sc_is_place : FnScope N_is_place ["floor", "thing"] (defScope t_is_place) := ⟨rfl, rfl, rfl, by decide +kernel, rfl, by decide +kernel, by decide +kernel⟩
abbrev N_is_closed : List Str := ["floor", "stand", "spot", "to", "thing", "held", "later", "place", "letter", "one"]
theorem sc_is_closed : FnScope N_is_closed ["floor", "stand", "spot", "to", "thing"] (defScope t_is_closed) := ⟨rfl, rfl, rfl, by decide +kernel, rfl, by decide +kernel, by decide +kernel⟩
abbrev N_shows_bring : List Str := ["floor", "stand", "spot", "to", "thing"]
theorem sc_shows_bring : FnScope N_shows_bring ["floor", "stand", "spot", "to", "thing"] (defScope t_shows_bring) := ⟨rfl, rfl, rfl, by decide +kernel, rfl, by decide +kernel, by decide +kernel⟩
abbrev N_may_come : List Str := ["floor", "stand", "spot", "place"]
theorem sc_may_come : FnScope N_may_come ["floor", "stand", "spot"] (defScope t_may_come) := ⟨rfl, rfl, rfl, by decide +kernel, rfl, by decide +kernel, by decide +kernel⟩
abbrev N_still : List Str := ["floor", "stand", "found", "cell", "lying", "spot", "letter"]
theorem sc_still : FnScope N_still ["floor", "stand"] (defScope t_still) := ⟨rfl, rfl, rfl, by decide +kernel, rfl, by decide +kernel, by decide +kernel⟩
abbrev N_undoing : List Str := ["floor", "stand", "row", "letter"]
theorem sc_undoing : FnScope N_undoing ["floor", "stand", "row"] (defScope t_undoing) := ⟨rfl, rfl, rfl, by decide +kernel, rfl, by decide +kernel, by decide +kernel⟩
abbrev N_L_cell_at : List Str := ["_law_script", "_law_k"]
theorem sc_L_cell_at : FnScope N_L_cell_at ["_law_script", "_law_k"] (defScope t_L_cell_at) := ⟨rfl, rfl, rfl, by decide +kernel, rfl, by decide +kernel, by decide +kernel⟩
abbrev N_L_pen : List Str := ["_law_cell"]
theorem sc_L_pen : FnScope N_L_pen ["_law_cell"] (defScope t_L_pen) := ⟨rfl, rfl, rfl, by decide +kernel, rfl, by decide +kernel, by decide +kernel⟩
abbrev N_L_draw : List Str := ["_law_pen_here", "_law_many", "_law_digit", "_law_stir"]
theorem sc_L_draw : FnScope N_L_draw ["_law_pen_here", "_law_many"] (defScope t_L_draw) := ⟨rfl, rfl, rfl, by decide +kernel, rfl, by decide +kernel, by decide +kernel⟩
abbrev N_L_pick : List Str := ["_law_pen_here", "_law_some"]
theorem sc_L_pick : FnScope N_L_pick ["_law_pen_here", "_law_some"] (defScope t_L_pick) := ⟨rfl, rfl, rfl, by decide +kernel, rfl, by decide +kernel, by decide +kernel⟩
abbrev N_L_beside : List Str := ["_law_cell", "_law_letter", "_law_column", "_law_row"]
theorem sc_L_beside : FnScope N_L_beside ["_law_cell", "_law_letter"] (defScope t_L_beside) := ⟨rfl, rfl, rfl, by decide +kernel, rfl, by decide +kernel, by decide +kernel⟩
abbrev N_L_tip : List Str := ["_law_lying", "_law_letter", "_law_low", "_law_north", "_law_east", "_law_found"]
theorem sc_L_tip : FnScope N_L_tip ["_law_lying", "_law_letter"] (defScope t_L_tip) := ⟨rfl, rfl, rfl, by decide +kernel, rfl, by decide +kernel, by decide +kernel⟩
abbrev N_L_drawn_floor : List Str := ["_law_pen_here", "_law_most", "_law_found", "_law_turn", "_law_near", "_law_here", "_law_letter", "_law_cell"]
theorem sc_L_drawn_floor : FnScope N_L_drawn_floor ["_law_pen_here", "_law_most"] (defScope t_L_drawn_floor) := ⟨rfl, rfl, rfl, by decide +kernel, rfl, by decide +kernel, by decide +kernel⟩
abbrev N_L_drawn_stand : List Str := ["_law_pen_here", "_law_floor", "_law_lying", "_law_turn"]
theorem sc_L_drawn_stand : FnScope N_L_drawn_stand ["_law_pen_here", "_law_floor"] (defScope t_L_drawn_stand) := ⟨rfl, rfl, rfl, by decide +kernel, rfl, by decide +kernel, by decide +kernel⟩
abbrev N_L_free : List Str := ["_law_floor", "_law_cell", "_law_letter"]
theorem sc_L_free : FnScope N_L_free ["_law_floor", "_law_cell"] (defScope t_L_free) := ⟨rfl, rfl, rfl, by decide +kernel, rfl, by decide +kernel, by decide +kernel⟩
abbrev N_L_drawn_row : List Str := ["_law_pen_here", "_law_floor", "_law_cell", "_law_most", "_law_found", "_law_turn"]
theorem sc_L_drawn_row : FnScope N_L_drawn_row ["_law_pen_here", "_law_floor", "_law_cell", "_law_most"] (defScope t_L_drawn_row) := ⟨rfl, rfl, rfl, by decide +kernel, rfl, by decide +kernel, by decide +kernel⟩
abbrev N_L_all_spots : List Str := ["_law_floor"]
theorem sc_L_all_spots : FnScope N_L_all_spots ["_law_floor"] (defScope t_L_all_spots) := ⟨rfl, rfl, rfl, by decide +kernel, rfl, by decide +kernel, by decide +kernel⟩
abbrev N_L_right : List Str := ["_law_floor", "_law_stand", "_law_spot", "_law_row", "_law_later", "_law_there", "_law_back", "_law_one"]
theorem sc_L_right : FnScope N_L_right ["_law_floor", "_law_stand", "_law_spot", "_law_row"] (defScope t_L_right) := ⟨rfl, rfl, rfl, by decide +kernel, rfl, by decide +kernel, by decide +kernel⟩
abbrev N_law : List Str := ["_law_script", "_law_k", "_law_pen_here", "_law_turn", "_law_floor", "_law_stand", "_law_spots", "_law_spot", "_law_to", "_law_word", "_law_told"]
theorem sc_law : FnScope N_law ["_law_script"] (defScope t_law) := ⟨rfl, rfl, rfl, by decide +kernel, rfl, by decide +kernel, by decide +kernel⟩
/-! ### the head: facts by names -/
open He in
def fnL1 : List DefD := [
  ⟨("is_whole", none), "is_whole", "is_whole", defArgs t_is_whole, defBody t_is_whole, defScope t_is_whole, [], []⟩,
  ⟨("is_among", none), "is_among", "is_among", defArgs t_is_among, defBody t_is_among, defScope t_is_among, [], []⟩,
  ⟨("are_some", none), "are_some", "are_some", defArgs t_are_some, defBody t_are_some, defScope t_are_some, [], []⟩,
  ⟨("rises", none), "rises", "rises", defArgs t_rises, defBody t_rises, defScope t_rises, [], []⟩,
  ⟨("is_cell", none), "is_cell", "is_cell", defArgs t_is_cell, defBody t_is_cell, defScope t_is_cell, [], []⟩,
  ⟨("is_floor", none), "is_floor", "is_floor", defArgs t_is_floor, defBody t_is_floor, defScope t_is_floor, [], []⟩,
  ⟨("need_floor", none), "need_floor", "need_floor", defArgs t_need_floor, defBody t_need_floor, defScope t_need_floor, [], []⟩,
  ⟨("is_cell_of", none), "is_cell_of", "is_cell_of", defArgs t_is_cell_of, defBody t_is_cell_of, defScope t_is_cell_of, [], []⟩,
  ⟨("need_cell", none), "need_cell", "need_cell", defArgs t_need_cell, defBody t_need_cell, defScope t_need_cell, [], []⟩,
  ⟨("is_lying", none), "is_lying", "is_lying", defArgs t_is_lying, defBody t_is_lying, defScope t_is_lying, [], []⟩,
  ⟨("need_lying", none), "need_lying", "need_lying", defArgs t_need_lying, defBody t_need_lying, defScope t_need_lying, [], []⟩,
  ⟨("rolled", none), "rolled", "rolled", defArgs t_rolled, defBody t_rolled, defScope t_rolled, [], []⟩,
  ⟨("need_row", none), "need_row", "need_row", defArgs t_need_row, defBody t_need_row, defScope t_need_row, [], []⟩,
  ⟨("beside", none), "beside", "beside", defArgs t_beside, defBody t_beside, defScope t_beside, [], []⟩,
  ⟨("off_at", none), "off_at", "off_at", defArgs t_off_at, defBody t_off_at, defScope t_off_at, [], []⟩,
  ⟨("need_let", none), "need_let", "need_let", defArgs t_need_let, defBody t_need_let, defScope t_need_let, [], []⟩,
  ⟨("stand_by", none), "stand_by", "stand_by", defArgs t_stand_by, defBody t_stand_by, defScope t_stand_by, [], []⟩,
  ⟨("stand_behind", none), "stand_behind", "stand_behind", defArgs t_stand_behind, defBody t_stand_behind, defScope t_stand_behind, [], []⟩,
  ⟨("is_stand", none), "is_stand", "is_stand", defArgs t_is_stand, defBody t_is_stand, defScope t_is_stand, [], []⟩,
  ⟨("need_stand", none), "need_stand", "need_stand", defArgs t_need_stand, defBody t_need_stand, defScope t_need_stand, [], []⟩,
  ⟨("spots_of", none), "spots_of", "spots_of", defArgs t_spots_of, defBody t_spots_of, defScope t_spots_of, [], []⟩,
  ⟨("need_rolls", none), "need_rolls", "need_rolls", defArgs t_need_rolls, defBody t_need_rolls, defScope t_need_rolls, [], []⟩,
  ⟨("traded", none), "traded", "traded", defArgs t_traded, defBody t_traded, defScope t_traded, [], []⟩,
  ⟨("turned_round", none), "turned_round", "turned_round", defArgs t_turned_round, defBody t_turned_round, defScope t_turned_round, [], []⟩,
  ⟨("exchange_by", none), "exchange_by", "exchange_by", defArgs t_exchange_by, defBody t_exchange_by, defScope t_exchange_by, [], []⟩,
  ⟨("exchange", none), "exchange", "exchange", defArgs t_exchange, defBody t_exchange, defScope t_exchange, [], []⟩,
  ⟨("moved", none), "moved", "moved", defArgs t_moved, defBody t_moved, defScope t_moved, [], []⟩,
  ⟨("spread", none), "spread", "spread", defArgs t_spread, defBody t_spread, defScope t_spread, [], []⟩,
  ⟨("need_spot", none), "need_spot", "need_spot", defArgs t_need_spot, defBody t_need_spot, defScope t_need_spot, [], []⟩,
  ⟨("need_wish", none), "need_wish", "need_wish", defArgs t_need_wish, defBody t_need_wish, defScope t_need_wish, [], []⟩,
  ⟨("bring_by", none), "bring_by", "bring_by", defArgs t_bring_by, defBody t_bring_by, defScope t_bring_by, [], []⟩,
  ⟨("bring", none), "bring", "bring", defArgs t_bring, defBody t_bring, defScope t_bring, [], []⟩,
  ⟨("does_bring", none), "does_bring", "does_bring", defArgs t_does_bring, defBody t_does_bring, defScope t_does_bring, [], []⟩,
  ⟨("shows_bring", none), "shows_bring", "shows_bring", defArgs t_shows_bring, defBody t_shows_bring, defScope t_shows_bring, [], []⟩,
  ⟨("may_come", none), "may_come", "may_come", defArgs t_may_come, defBody t_may_come, defScope t_may_come, [], []⟩,
  ⟨("still", none), "still", "still", defArgs t_still, defBody t_still, defScope t_still, [], []⟩,
  ⟨("undoing", none), "undoing", "undoing", defArgs t_undoing, defBody t_undoing, defScope t_undoing, [], []⟩,
  ⟨("_law_cell_at", none), "_law_cell_at", "_law_cell_at", defArgs t_L_cell_at, defBody t_L_cell_at, defScope t_L_cell_at, [], []⟩,
  ⟨("_law_pen", none), "_law_pen", "_law_pen", defArgs t_L_pen, defBody t_L_pen, defScope t_L_pen, [], []⟩,
  ⟨("_law_draw", none), "_law_draw", "_law_draw", defArgs t_L_draw, defBody t_L_draw, defScope t_L_draw, [], []⟩,
  ⟨("_law_pick", none), "_law_pick", "_law_pick", defArgs t_L_pick, defBody t_L_pick, defScope t_L_pick, [], []⟩,
  ⟨("_law_beside", none), "_law_beside", "_law_beside", defArgs t_L_beside, defBody t_L_beside, defScope t_L_beside, [], []⟩,
  ⟨("_law_tip", none), "_law_tip", "_law_tip", defArgs t_L_tip, defBody t_L_tip, defScope t_L_tip, [], []⟩,
  ⟨("_law_drawn_floor", none), "_law_drawn_floor", "_law_drawn_floor", defArgs t_L_drawn_floor, defBody t_L_drawn_floor, defScope t_L_drawn_floor, [], []⟩,
  ⟨("_law_drawn_stand", none), "_law_drawn_stand", "_law_drawn_stand", defArgs t_L_drawn_stand, defBody t_L_drawn_stand, defScope t_L_drawn_stand, [], []⟩,
  ⟨("_law_free", none), "_law_free", "_law_free", defArgs t_L_free, defBody t_L_free, defScope t_L_free, [], []⟩,
  ⟨("_law_drawn_row", none), "_law_drawn_row", "_law_drawn_row", defArgs t_L_drawn_row, defBody t_L_drawn_row, defScope t_L_drawn_row, [], []⟩,
  ⟨("_law_all_spots", none), "_law_all_spots", "_law_all_spots", defArgs t_L_all_spots, defBody t_L_all_spots, defScope t_L_all_spots, [], []⟩,
  ⟨("_law_right", none), "_law_right", "_law_right", defArgs t_L_right, defBody t_L_right, defScope t_L_right, [], []⟩,
  ⟨("law", none), "law", "law", defArgs t_law, defBody t_law, defScope t_law, [], []⟩
]
def faL : List He.Fa := [
  .glo "is_whole",
  .glo "is_among",
  .glo "are_some",
  .glo "rises",
  .glo "is_cell",
  .glo "is_floor",
  .glo "need_floor",
  .glo "is_cell_of",
  .glo "need_cell",
  .glo "is_lying",
  .glo "need_lying",
  .glo "rolled",
  .glo "need_row",
  .glo "beside",
  .glo "off_at",
  .glo "need_let",
  .glo "stand_by",
  .glo "stand_behind",
  .glo "is_stand",
  .glo "need_stand",
  .glo "spots_of",
  .glo "need_rolls",
  .glo "traded",
  .glo "turned_round",
  .glo "exchange_by",
  .glo "exchange",
  .glo "moved",
  .glo "spread",
  .glo "need_spot",
  .glo "need_wish",
  .glo "bring_by",
  .glo "bring",
  .glo "does_bring",
  .glo "shows_bring",
  .glo "may_come",
  .glo "still",
  .glo "undoing",
  .glo "_law_cell_at",
  .glo "_law_pen",
  .glo "_law_draw",
  .glo "_law_pick",
  .glo "_law_beside",
  .glo "_law_tip",
  .glo "_law_drawn_floor",
  .glo "_law_drawn_stand",
  .glo "_law_free",
  .glo "_law_drawn_row",
  .glo "_law_all_spots",
  .glo "_law_right",
  .glo "law",
  .glo "STEPS",
  .glo "BACK",
  .free "isinstance",
  .free "int",
  .free "bool",
  .free "tuple",
  .free "str",
  .free "len",
  .free "all",
  .free "zip",
  .free "min",
  .free "max",
  .free "list",
  .free "range",
  .free "enumerate",
  .free "sorted",
  .int "MOST_WIDE" 3,
  .int "MOST_CELLS" 9,
  .int "LAST_FACE" 5,
  .int "FACES" 6,
  .int "NOWHERE" (-1),
  .str "LETTERS" "ensw",
  .str "ROW" "row",
  .str "NEVER" "never"
]
def loose0 : List PySem.Str := ["TumbleError", "NoFloor", "NoCell", "NoLying", "NoRow", "NotLet", "NoStand", "NoSpot", "MOST_WIDE", "MOST_CELLS", "LAST_FACE", "LETTERS"]
def loose1 : List PySem.Str := ["STEPS", "is_whole", "is_among", "are_some", "rises", "is_cell", "is_floor", "need_floor", "is_cell_of", "need_cell", "is_lying", "need_lying"]
def loose2 : List PySem.Str := ["rolled", "need_row", "beside", "off_at", "need_let", "stand_by", "stand_behind", "is_stand", "need_stand", "FACES", "spots_of", "need_rolls"]
def loose3 : List PySem.Str := ["traded", "turned_round", "exchange_by", "exchange", "NOWHERE", "moved", "spread", "ROW", "NEVER", "need_spot", "need_wish", "bring_by"]
def loose4 : List PySem.Str := ["bring", "does_bring", "is_place", "is_closed", "shows_bring", "may_come", "still", "BACK", "undoing", "_law_cell_at", "_law_pen", "_law_draw"]
def loose5 : List PySem.Str := ["_law_pick", "_law_beside", "_law_tip", "_law_drawn_floor", "_law_drawn_stand", "_law_free", "_law_drawn_row", "_law_all_spots", "_law_right"]
def looseL : List PySem.Str := loose0 ++ loose1 ++ loose2 ++ loose3 ++ loose4 ++ loose5
end TM
end
/-! ## TW0 -/
section
namespace TM
open PySem PySem.Spec PyProof.Rows L2

/-! ### letters and rows as texts -/
def ltN : Lt → Nat
  | .e => 101
  | .n => 110
  | .s => 115
  | .w => 119
def ltS (l : Lt) : Str := ⟨#[ltN l]⟩
def rowS (r : List Lt) : Str := ⟨(r.map ltN).toArray⟩
theorem ltS_e : ltS .e = ("e" : Str) := by decide +kernel
theorem ltS_n : ltS .n = ("n" : Str) := by decide +kernel
theorem ltS_s : ltS .s = ("s" : Str) := by decide +kernel
theorem ltS_w : ltS .w = ("w" : Str) := by decide +kernel
theorem rowS_lts : rowS lts = ("ensw" : Str) := by decide +kernel
theorem rowS_nil : rowS [] = ("" : Str) := by decide +kernel
theorem rowS_size (r : List Lt) : (rowS r).cps.size = r.length := by simp [rowS]
theorem rowS_length (r : List Lt) : (rowS r).length = r.length := rowS_size r
theorem ltN_inj {a b : Lt} (h : ltN a = ltN b) : a = b := by cases a <;> cases b <;> first | rfl | (simp [ltN] at h)
theorem ltS_inj {a b : Lt} (h : ltS a = ltS b) : a = b := by
  have e : (ltS a).cps.toList = (ltS b).cps.toList := by rw [h]
  exact ltN_inj (by simpa [ltS] using e)
theorem rowS_get {r : List Lt} {i c : Nat} (h : (rowS r).cps[i]? = some c) : ∃ l, r[i]? = some l ∧ c = ltN l := by
  have h' : (r.map ltN)[i]? = some c := by simpa [rowS] using h
  rw [List.getElem?_map] at h'
  obtain ⟨l, hl, e⟩ := Option.map_eq_some_iff.mp h'
  exact ⟨l, hl, e.symm⟩
theorem rowS_at {r : List Lt} {i : Nat} {l : Lt} (h : r[i]? = some l) : (rowS r).cps[i]? = some (ltN l) := by
  simp [rowS, h]
theorem rowS_append (r t : List Lt) : rowS r ++ rowS t = rowS (r ++ t) := by
  have e : ∀ a b : Str, a ++ b = ⟨a.cps ++ b.cps⟩ := fun _ _ => rfl
  rw [e]
  simp [rowS]
theorem rowS_snoc (r : List Lt) (l : Lt) : rowS r ++ ltS l = rowS (r ++ [l]) := rowS_append r [l]
theorem rowS_inj {r t : List Lt} (h : rowS r = rowS t) : r = t := by
  have e : r.map ltN = t.map ltN := by
    have := congrArg (fun z : Str => z.cps.toList) h
    simpa [rowS] using this
  clear h
  induction r generalizing t with
  | nil =>
    cases t with
    | nil => rfl
    | cons _ _ => cases e
  | cons a r ih =>
    cases t with
    | nil => cases e
    | cons b t =>
      rw [List.map_cons, List.map_cons] at e
      injection e with e1 e2
      rw [ltN_inj e1, ih e2]
theorem rowS_reverse (r : List Lt) : (⟨(rowS r).cps.reverse⟩ : Str) = rowS r.reverse := by simp [rowS]

/-! ### the top's names -/
structure TX (K : PySem.W.Frag) (w : World) (mg : Str → Option Value) : Prop where
  isi : mg "isinstance" = none
  int : mg "int" = none
  bool : mg "bool" = none
  tuple : mg "tuple" = none
  str : mg "str" = none
  len : mg "len" = none
  all : mg "all" = none
  zip : mg "zip" = none
  min : mg "min" = none
  max : mg "max" = none
  list : mg "list" = none
  range : mg "range" = none
  enum : mg "enumerate" = none
  sorted : mg "sorted" = none
  wide : ∃ t, mg "MOST_WIDE" = some (.int 3 t)
  cells : ∃ t, mg "MOST_CELLS" = some (.int 9 t)
  last : ∃ t, mg "LAST_FACE" = some (.int 5 t)
  faces : ∃ t, mg "FACES" = some (.int 6 t)
  nowh : ∃ t, mg "NOWHERE" = some (.int (-1) t)
  lets : ∃ t, mg "LETTERS" = some (.str "ensw" t)
  row : ∃ t, mg "ROW" = some (.str "row" t)
  never : ∃ t, mg "NEVER" = some (.str "never" t)
  steps : ∃ S, mg "STEPS" = some (.ref S) ∧ ∀ l : Lt, ∃ t, KDct K w S (ltS l) (.ref t) ∧ ∀ H : Hp, SqT K H t [.int (stp l).1, .int (stp l).2]
  back : ∃ B, mg "BACK" = some (.ref B) ∧ ∀ l : Lt, KDct K w B (ltS l) (.str (ltS (bk l)))

/-- a def of the top under its name -/
def Dn (K : PySem.W.Frag) (mg : Str → Option Value) (x : Str) (st : Stmt) : Prop := ∃ f fd, FunD K x x (defArgs st) (defBody st) (defScope st) [] [] f fd ∧ mg x = some (.ref f)
/-- .. that keeps a promise -/
structure Cl (P : Program) (w : World) (K : PySem.W.Frag) (mg : Str → Option Value) (base : Heap) (k : Nat) (x : Str) (sp : Sp) : Prop where
  ex : ∃ (f : Addr) (fd : FuncData) (ps : List Str), FnOk P w K mg base CX0 k f fd ps sp ∧ mg x = some (.ref f) ∧ PySem.W.keepIn K (.ref f) = true ∧ Binds K fd ps []
section
variable {P : Program} {w : World} {K : PySem.W.Frag} {mg : Str → Option Value} {base : Heap}
theorem mk_cl {x : Str} {st : Stmt} {N ps : List Str} {k : Nat} {sp : Sp} (D : Dn K mg x st) (S : FnScope N ps (defScope st))
    (b : ∀ (kV doc pm : Value) (an : Option Addr) (cdv ct : Value) (us : List Value), us.length = ps.length → bindArgs (PySem.W.fnOf x x (defArgs st) (defBody st) (defScope st) .none kV doc pm an cdv ct) ⟨us, []⟩ = pure (ps.zip us))
    (len : ∀ vs H Q E, sp vs H Q E → vs.length = ps.length)
    (body : ∀ (f : Addr) (cdv : Value) (A : Around) (outer : List Env) (s : Shared) (H : Hp) (vs : List V) (Q : VK) (E : XK), Room k (A.deeper (envOfC x (defScope st) s.heap.objs.size f cdv)) → sp vs H Q E →
      ∃ t, PSs (cxOf CX0 P w K mg base N x (defScope st) f cdv A outer s H E).nox (defBody st) t ∧ t { nx := fun _ H' => Q .non H', rt := Q } (start N vs) H) : Cl P w K mg base (k + 1) x sp := by
  obtain ⟨f, fd, F, g⟩ := D
  refine ⟨f, fd, ps, F.ok S len fun cdv A outer s H vs Q E hr h => ?_, g, F.kp, F.bindsN b⟩
  obtain ⟨t, h1, h2⟩ := body f cdv A outer s H vs Q E hr h
  exact ⟨t, h1.nox, h2⟩
theorem Cl.mono {x : Str} {j k : Nat} {sp : Sp} (c : Cl P w K mg base j x sp) (h : j ≤ k) : Cl P w K mg base k x sp := let ⟨f, fd, ps, F, r⟩ := c.ex; ⟨f, fd, ps, F.mono h, r⟩
end
section
variable {X : Cx} {k j : Nat} {x : Str} {sp : Sp} {p pos : Pos} {e : Expr} {es : List Expr} {t : TA}
/-- a call of such a def -/
theorem pe_d (c : Cl X.prog X.w X.K X.mg X.base k x sp) (hr : Room j X.A) (hk : k ≤ j) (hg : Gl X x) (ha : PA X (e :: es) t)
    (hdb : (x == ("__debug__" : Str)) = false := by decide) (he : starEach (e :: es) X.env = (false, eval e X.env) :: starEach es X.env := by rfl) (plain : (backTo pos (starEach es X.env)).any (·.1) = false := by rfl) :
    PE X (.Call (.Name x p) (e :: es) [] pos) (tCall sp [] E0 t) := by
  obtain ⟨f, fd, ps, F, hm, kp, b⟩ := c.ex
  exact pe_call F (hr.mono hk) hg hm kp b .nil pass0 ha hdb he plain
end
theorem un9 {A : Around} {k : Nat} (hr : Room k A) : A.units + 9 < cLine := by have := hr.units; omega
theorem un65 {A : Around} {k : Nat} (hr : Room (k + 1) A) : A.units + 64 < cLine := by have := hr.units; omega
end TM
end
/-! ## TWA -/
section
namespace TM
open PySem PySem.Spec PyProof.Rows L2

/-! ### names that hold numbers and texts -/
section
variable {X : Cx} {pos : Pos} (T : TX X.K X.w X.mg)
theorem g_int {x : Str} {i : Int} {pos : Pos} {X : Cx} (h : ∃ t, X.mg x = some (.int i t)) (hg : Gl X x) (hd : (x == ("__debug__" : Str)) = false := by decide) : PE X (.Name x pos) (tC (.int i)) := by
  obtain ⟨t, h⟩ := h
  exact pe_glob hg h ⟨t, rfl⟩ hd
theorem g_str {x z : Str} {pos : Pos} {X : Cx} (h : ∃ t, X.mg x = some (.str z t)) (hg : Gl X x) (hd : (x == ("__debug__" : Str)) = false := by decide) : PE X (.Name x pos) (tC (.str z)) := by
  obtain ⟨t, h⟩ := h
  exact pe_glob hg h ⟨t, rfl⟩ hd
include T
theorem g_wide (hg : Gl X "MOST_WIDE") : PE X (.Name "MOST_WIDE" pos) (tC (.int 3)) := g_int T.wide hg
theorem g_cells (hg : Gl X "MOST_CELLS") : PE X (.Name "MOST_CELLS" pos) (tC (.int 9)) := g_int T.cells hg
theorem g_last (hg : Gl X "LAST_FACE") : PE X (.Name "LAST_FACE" pos) (tC (.int 5)) := g_int T.last hg
theorem g_faces (hg : Gl X "FACES") : PE X (.Name "FACES" pos) (tC (.int 6)) := g_int T.faces hg
theorem g_nowh (hg : Gl X "NOWHERE") : PE X (.Name "NOWHERE" pos) (tC (.int (-1))) := g_int T.nowh hg
theorem g_lets (hg : Gl X "LETTERS") : PE X (.Name "LETTERS" pos) (tC (.str "ensw")) := g_str T.lets hg
theorem g_row (hg : Gl X "ROW") : PE X (.Name "ROW" pos) (tC (.str "row")) := g_str T.row hg
theorem g_never (hg : Gl X "NEVER") : PE X (.Name "NEVER" pos) (tC (.str "never")) := g_str T.never hg
end

/-! ### promises by the number of arguments -/
def sp1 (R : V → Hp → VK → Prop) : Sp := fun vs H Q _ => ∃ a, vs = [a] ∧ R a H Q
def sp2 (R : V → V → Hp → VK → Prop) : Sp := fun vs H Q _ => ∃ a b, vs = [a, b] ∧ R a b H Q
def sp3 (R : V → V → V → Hp → VK → Prop) : Sp := fun vs H Q _ => ∃ a b c, vs = [a, b, c] ∧ R a b c H Q
def sp4 (R : V → V → V → V → Hp → VK → Prop) : Sp := fun vs H Q _ => ∃ a b c d, vs = [a, b, c, d] ∧ R a b c d H Q
def sp5 (R : V → V → V → V → V → Hp → VK → Prop) : Sp := fun vs H Q _ => ∃ a b c d e, vs = [a, b, c, d, e] ∧ R a b c d e H Q

/-! ### a comprehension whose items are told -/
theorem same_new {H : Hp} {p : Addr} {o : HO} (h : H p = none) : Same H (upd H p o) := fun b u q => by rw [upd_ne (ne_of_none q h)]; exact q
theorem lc_map {J : It} {n : Nat} {G : Hp → Prop} {Y : Nat → Hp → V → Hp → Prop} (w : Walk J n G Y) {g : TG} {te : TE} {vs : List Nat} {σ : L2.St} {H0 : Hp} {D : Addr} {Qd : Hp → Prop} (ys : List V) (hl : ys.length = n) (hn : n ≤ sizeLine)
    (hD : H0 D = none) (hG : ∀ H, Same H0 H → G H)
    (hs : ∀ (i : Nat) x y H H' (Q : VK), i < n → ys[i]? = some y → Same H0 H → Y i H x H' → (∀ H4, Same H H4 → Q y H4) → g x (wipe σ vs) H' fun σ2 H2 => wipe σ2 vs = wipe σ vs ∧ te σ2 H2 Q)
    (hd : ∀ H, Same H0 H → H D = some (.lst ys) → Qd H) :
    ∃ W : Nat → Nat → Hp → Prop, (∃ m, W 0 m (upd H0 D (.lst []))) ∧ ∀ i m H, W i m H →
      (J.stop i H ∧ Qd H) ∨ (J.go i H ∧ ∃ Nx : Hp → Prop, (∀ H', Nx H' → ∃ m', m' < m ∧ W (i + 1) m' H') ∧ ∀ x H', J.yld i H x H' → g x (wipe σ vs) H' fun σ2 H2 => wipe σ2 vs = wipe σ vs ∧ tYes σ2 H2 fun b H3 =>
        if b = true then te σ2 H3 fun y H4 => ∃ acc, H4 D = some (.lst acc) ∧ acc.length < sizeLine ∧ Nx (upd H4 D (.lst (acc ++ [y]))) else Nx H3) := by
  refine lc_it w (fun i H => Same H0 H ∧ H D = some (.lst (ys.take i))) ⟨same_new hD, by rw [upd_same]; rfl⟩ (fun i H _ p => hG H p.1) (fun i x H H' hi p y => ?_) (fun H p => hd H p.1 (by rw [p.2, ← hl, List.take_length]))
  have hy : ys[i]? = some ys[i] := List.getElem?_eq_getElem (by omega)
  refine hs i x ys[i] H H' (fun y H4 => ∃ acc, H4 D = some (.lst acc) ∧ acc.length < sizeLine ∧ (Same H0 (upd H4 D (.lst (acc ++ [y]))) ∧ upd H4 D (.lst (acc ++ [y])) D = some (.lst (ys.take (i + 1))))) hi hy p.1 y fun H4 s => ?_
  refine ⟨ys.take i, s _ _ p.2, by rw [List.length_take]; omega, ?_, ?_⟩
  · intro b u e
    rw [upd_ne (ne_of_none e hD)]
    exact s _ _ (p.1 _ _ e)
  · rw [upd_same, List.take_succ, hy]
    rfl
def yes (n : Nat) : List V := (List.replicate n true).map V.bl
theorem yes_length (n : Nat) : (yes n).length = n := by simp [yes]
theorem yes_get {n i : Nat} {y : V} (h : (yes n)[i]? = some y) : y = .bl true := by
  have h' := List.mem_of_getElem? h
  obtain ⟨b, hb, rfl⟩ := List.mem_map.mp h'
  rw [(List.mem_replicate.mp hb).2]
theorem yes_all (n : Nat) : (List.replicate n true).all id = true := by simp
theorem small9 {n : Nat} (h : n ≤ 100000) : n ≤ sizeLine := by rw [sizeLine_eq]; omega

/-! ### small values -/
theorem CellsAt.at {H : Hp} : ∀ {as : List Addr} {fl : List Cell}, CellsAt H as fl → ∀ {i : Nat} {v : V}, (as.map V.ref)[i]? = some v → ∃ b c, v = .ref b ∧ fl[i]? = some c ∧ CellAt H b c
  | _, _, .nil, i, v, h => by simp at h
  | _, _, .cons (a := a) (b := b) r t, 0, v, h => ⟨a, b, by simpa using h.symm, rfl, r⟩
  | _, _, .cons r t, i + 1, v, h => CellsAt.at t (i := i) (by simpa using h)
theorem CellAt.same {H H' : Hp} {a : Addr} {c : Cell} (s : Same H H') (h : CellAt H a c) : CellAt H' a c := s _ _ h
theorem FlAt.same {H H' : Hp} {a : Addr} {fl : List Cell} (s : Same H H') (h : FlAt H a fl) : FlAt H' a fl := h.mono (same_T s)
theorem CellAt.rd {H : Hp} {a : Addr} {c : Cell} (h : CellAt H a c) : Rd H a (.tup [.int c.1, .int c.2]) := .inl h

theorem rd_ty {K : PySem.W.Frag} {H : Hp} {p : Addr} {xs : List V} (h : Rd H p (.tup xs)) : TyX K H (.ref p) (.type "tuple") := by
  rcases h with h | ⟨o, h⟩
  · exact .base (.tup h)
  · exact .fTuple h
theorem rd_sq {K : PySem.W.Frag} {H : Hp} {p : Addr} {xs : List V} (h : Rd H p (.tup xs)) : SqT K H p xs := by
  rcases h with h | ⟨o, h⟩
  · exact .inl (.inl h)
  · exact .inl (.inr ⟨o, h⟩)
theorem SqT.smT {K : PySem.W.Frag} {H H' : Hp} {a : Addr} {xs : List V} (s : SameT H H') (h : SqT K H a xs) : SqT K H' a xs := by
  rcases h with (h | ⟨o, h⟩) | h
  · exact .inl (.inl (s.1 _ _ h))
  · exact .inl (.inr ⟨o, s.2 _ _ _ h⟩)
  · exact .inr h
theorem sqS {K : PySem.W.Frag} {H H' : Hp} {a : Addr} {xs : List V} (s : Same H H') (h : SqT K H a xs) : SqT K H' a xs := SqT.smT (same_T s) h
theorem FlAt.sq2 {H : Hp} {a : Addr} {fl : List Cell} (h : FlAt H a fl) : ∃ as, Rd H a (.tup (as.map V.ref)) ∧ CellsAt H as fl ∧ as.length = fl.length := let ⟨o, as, _, h2, h3⟩ := h; ⟨as, .inr ⟨o, h2⟩, h3, Paired.length h3⟩
theorem Rd.same {H H' : Hp} {a : Addr} {xs : List V} (s : Same H H') (h : Rd H a (.tup xs)) : Rd H' a (.tup xs) := by
  rcases h with h | ⟨o, h⟩
  · exact .inl (s _ _ h)
  · exact .inr ⟨o, s _ _ h⟩
theorem bl_true {Q : VK} {H : Hp} {p : Prop} [Decidable p] (h : p) (q : Q (.bl true) H) : Q (.bl (decide p)) H := by
  rw [decide_eq_true h]
  exact q
theorem bl_false {Q : VK} {H : Hp} {p : Prop} [Decidable p] (h : ¬ p) (q : Q (.bl false) H) : Q (.bl (decide p)) H := by
  rw [decide_eq_false h]
  exact q
end TM
namespace TM
open PySem PySem.Spec PyProof.Rows L2
/-- a comprehension with a test: the items for which it holds -/
theorem lc_filt {J : It} {n : Nat} {G : Hp → Prop} {Y : Nat → Hp → V → Hp → Prop} (w : Walk J n G Y) {g : TG} {tt : TT} {te : TE} {vs : List Nat} {σ : L2.St} {H0 : Hp} {D : Addr} {Qd : Hp → Prop} (ys : List V) (p : V → Bool) (hl : ys.length = n) (hn : n ≤ sizeLine)
    (hD : H0 D = none) (hG : ∀ H, Same H0 H → G H)
    (hs : ∀ (i : Nat) x y H H' (Qe : VK) (Qn : Hp → Prop), i < n → ys[i]? = some y → Same H0 H → Y i H x H' → (p y = true → ∀ H4, Same H H4 → Qe y H4) → (p y = false → ∀ H4, Same H H4 → Qn H4) →
      g x (wipe σ vs) H' fun σ2 H2 => wipe σ2 vs = wipe σ vs ∧ tt σ2 H2 fun b H3 => if b = true then te σ2 H3 Qe else Qn H3)
    (hd : ∀ H, Same H0 H → H D = some (.lst (ys.filter p)) → Qd H) :
    ∃ W : Nat → Nat → Hp → Prop, (∃ m, W 0 m (upd H0 D (.lst []))) ∧ ∀ i m H, W i m H →
      (J.stop i H ∧ Qd H) ∨ (J.go i H ∧ ∃ Nx : Hp → Prop, (∀ H', Nx H' → ∃ m', m' < m ∧ W (i + 1) m' H') ∧ ∀ x H', J.yld i H x H' → g x (wipe σ vs) H' fun σ2 H2 => wipe σ2 vs = wipe σ vs ∧ tt σ2 H2 fun b H3 =>
        if b = true then te σ2 H3 fun y H4 => ∃ acc, H4 D = some (.lst acc) ∧ acc.length < sizeLine ∧ Nx (upd H4 D (.lst (acc ++ [y]))) else Nx H3) := by
  refine lc_it w (fun i H => Same H0 H ∧ H D = some (.lst ((ys.take i).filter p))) ⟨same_new hD, by rw [upd_same]; rfl⟩ (fun i H _ p => hG H p.1) (fun i x H H' hi q y => ?_) (fun H q => hd H q.1 (by rw [q.2, ← hl, List.take_length]))
  have hy : ys[i]? = some ys[i] := List.getElem?_eq_getElem (by omega)
  have e1 : ys.take (i + 1) = ys.take i ++ [ys[i]] := by rw [List.take_succ, hy]; rfl
  have hlen : ((ys.take i).filter p).length < sizeLine := by
    have := List.length_filter_le p (ys.take i)
    rw [List.length_take] at this
    omega
  refine hs i x ys[i] H H' (fun y H4 => ∃ acc, H4 D = some (.lst acc) ∧ acc.length < sizeLine ∧ (Same H0 (upd H4 D (.lst (acc ++ [y]))) ∧ upd H4 D (.lst (acc ++ [y])) D = some (.lst ((ys.take (i + 1)).filter p))))
    (fun H4 => Same H0 H4 ∧ H4 D = some (.lst ((ys.take (i + 1)).filter p))) hi hy q.1 y (fun hp H4 s => ?_) (fun hp H4 s => ?_)
  · refine ⟨(ys.take i).filter p, s _ _ q.2, hlen, ?_, ?_⟩
    · intro b u e
      rw [upd_ne (ne_of_none e hD)]
      exact s _ _ (q.1 _ _ e)
    · rw [upd_same, e1, List.filter_append, List.filter_cons_of_pos hp]
      rfl
  · refine ⟨q.1.trans s, ?_⟩
    rw [e1, List.filter_append, List.filter_cons_of_neg (by rw [hp]; decide), List.filter_nil, List.append_nil]
    exact s _ _ q.2
theorem lt_eq (l m : Lt) {z : Str} (hz : ltS m = z) : decide (V.str (ltS l) = V.str z) = decide (l = m) := by
  subst hz
  by_cases e : l = m
  · rw [decide_eq_true e, e]
    exact decide_eq_true rfl
  · rw [decide_eq_false e]
    exact decide_eq_false fun z => e (ltS_inj (V.str.inj z))
theorem two_le (n : Nat) (h : n ≤ 1000) : n ≤ sizeLine := by rw [sizeLine_eq]; omega
theorem LyAt.same {H H' : Hp} {a : Addr} {c : Ly} (s : Same H H') (h : LyAt H a c) : LyAt H' a c := s _ _ h
theorem StAt.same {H H' : Hp} {a : Addr} {c : Cell × Ly} (s : Same H H') (h : StAt H a c) : StAt H' a c := h.mono (same_tup s)
theorem PlAt.same {H H' : Hp} {a : Addr} {c : Pl} (s : Same H H') (h : PlAt H a c) : PlAt H' a c := h.mono (same_tup s)
end TM
end
/-! ## TW1 -/
section
namespace TM
open PySem PySem.Spec PyProof.Rows L2

/-! ### is_whole, is_among, are_some -/
def s_is_whole (P : Program) (w : World) (K : PySem.W.Frag) : Sp := sp1 fun x H Q => ∃ i, x = .int i ∧ Q (.bl true) H
def s_is_among (P : Program) (w : World) (K : PySem.W.Frag) : Sp := sp3 fun x lo hi H Q => ∃ i a b, x = .int i ∧ lo = .int a ∧ hi = .int b ∧ a ≤ i ∧ i ≤ b ∧ Q (.bl true) H
def s_are_some (P : Program) (w : World) (K : PySem.W.Frag) : Sp := sp3 fun x lo hi H Q => ∃ p xs i j, x = .ref p ∧ Rd H p (.tup xs) ∧ lo = .int i ∧ hi = .int j ∧ i ≤ xs.length ∧ xs.length ≤ j ∧ Q (.bl true) H
theorem w_is_whole {P : Program} {w : World} {K : PySem.W.Frag} {mg : Str → Option Value} {base : Heap} (T : TX K w mg) (D : Dn K mg "is_whole" t_is_whole) : Cl P w K mg base 1 "is_whole" (s_is_whole P w K) := by
  refine mk_cl D sc_is_whole (fun _ _ _ _ _ _ us hl => match us, hl with | [_], _ => rfl) (fun vs H Q E h => by obtain ⟨_, rfl, _⟩ := h; rfl) (fun f cdv A outer s H vs Q E hr h => ?_)
  obtain ⟨v0, rfl, h⟩ := h
  refine ⟨_, (pss_one (ps_ret (pe_and (pe_callB call_isi (by rfl) T.isi (by decide +kernel) (pa_cons (pv 0) (pa_cons (pe_bltn (v := V.ty "int") (u := Value.type "int") (by rfl) T.int (by decide +kernel) rfl) pa_nil))) (pe_one (pe_not (pe_callB call_isi (by rfl) T.isi (by decide +kernel) (pa_cons (pv 0) (pa_cons (pe_bltn (v := V.ty "bool") (u := Value.type "bool") (by rfl) T.bool (by decide +kernel) rfl) pa_nil)))))))), ?_⟩
  obtain ⟨i, rfl, q⟩ := h
  refine ⟨_, rfl, _, _, _, _, true, rfl, .ty _, .base (.int _), kit_ty (by decide +kernel), true, rfl, ?_⟩
  show _
  refine ⟨_, rfl, _, _, _, _, false, rfl, .ty _, .base (.int _), kit_ty (by decide +kernel), false, rfl, ?_⟩
  exact q
theorem w_is_among {P : Program} {w : World} {K : PySem.W.Frag} {mg : Str → Option Value} {base : Heap} (T : TX K w mg) (D : Dn K mg "is_among" t_is_among) (c_is_whole : Cl P w K mg base 1 "is_whole" (s_is_whole P w K)) : Cl P w K mg base 2 "is_among" (s_is_among P w K) := by
  refine mk_cl D sc_is_among (fun _ _ _ _ _ _ us hl => match us, hl with | [_, _, _], _ => rfl) (fun vs H Q E h => by obtain ⟨_, _, _, rfl, _⟩ := h; rfl) (fun f cdv A outer s H vs Q E hr h => ?_)
  obtain ⟨v0, v1, v2, rfl, h⟩ := h
  refine ⟨_, (pss_one (ps_ret (pe_and (pe_d c_is_whole hr (by decide) (by rfl) (pa_cons (pv 0) pa_nil)) (pe_one (pe_chain op_le op_le (pv 1) (pv 0) (pv 2)))))), ?_⟩
  obtain ⟨i, a, b, rfl, rfl, rfl, h1, h2, q⟩ := h
  refine ⟨_, rfl, _, rfl, i, rfl, true, rfl, ?_⟩
  refine ⟨_, rfl, _, rfl, a, i, rfl, rfl, decide (a ≤ i), rfl, ?_⟩
  rw [if_pos (decide_eq_true h1)]
  refine ⟨_, rfl, i, b, rfl, rfl, ?_⟩
  exact bl_true (Q := Q) h2 q
theorem w_are_some {P : Program} {w : World} {K : PySem.W.Frag} {mg : Str → Option Value} {base : Heap} (T : TX K w mg) (D : Dn K mg "are_some" t_are_some) : Cl P w K mg base 1 "are_some" (s_are_some P w K) := by
  refine mk_cl D sc_are_some (fun _ _ _ _ _ _ us hl => match us, hl with | [_, _, _], _ => rfl) (fun vs H Q E h => by obtain ⟨_, _, _, rfl, _⟩ := h; rfl) (fun f cdv A outer s H vs Q E hr h => ?_)
  obtain ⟨v0, v1, v2, rfl, h⟩ := h
  refine ⟨_, (pss_one (ps_ret (pe_and (pe_callB call_isi (by rfl) T.isi (by decide +kernel) (pa_cons (pv 0) (pa_cons (pe_bltn (v := V.ty "tuple") (u := Value.type "tuple") (by rfl) T.tuple (by decide +kernel) rfl) pa_nil))) (pe_one (pe_chain op_le op_le (pv 1) (pe_callB call_len_seq (by rfl) T.len (by decide +kernel) (pa_cons (pv 0) pa_nil)) (pv 2)))))), ?_⟩
  obtain ⟨p, xs, i, j, rfl, hp, rfl, rfl, h1, h2, q⟩ := h
  refine ⟨_, rfl, _, _, _, _, true, rfl, .ty _, rd_ty hp, kit_ty (by decide +kernel), true, rfl, ?_⟩
  refine ⟨_, rfl, _, rfl, p, xs, rfl, .inr (rd_sq hp), i, xs.length, rfl, rfl, decide (i ≤ (xs.length : Int)), rfl, ?_⟩
  rw [if_pos (decide_eq_true h1)]
  refine ⟨_, rfl, xs.length, j, rfl, rfl, ?_⟩
  exact bl_true (Q := Q) h2 q
/-! ### rises, is_cell, is_floor, need_floor -/
def s_rises (P : Program) (w : World) (K : PySem.W.Frag) : Sp := sp1 fun x H Q => ∃ a fl, x = .ref a ∧ FlAt H a fl ∧ FlOk fl ∧ ∀ H', Same H H' → Q (.bl true) H'
def s_is_cell (P : Program) (w : World) (K : PySem.W.Frag) : Sp := sp1 fun x H Q => ∃ a c, x = .ref a ∧ CellAt H a c ∧ Grd c ∧ ∀ H', Same H H' → Q (.bl true) H'
def s_is_floor (P : Program) (w : World) (K : PySem.W.Frag) : Sp := sp1 fun x H Q => ∃ a fl, x = .ref a ∧ FlAt H a fl ∧ FlOk fl ∧ ∀ H', Same H H' → Q (.bl true) H'
def s_need_floor (P : Program) (w : World) (K : PySem.W.Frag) : Sp := sp1 fun x H Q => ∃ a fl, x = .ref a ∧ FlAt H a fl ∧ FlOk fl ∧ ∀ H', Same H H' → Q .non H'
theorem cut1 (xs : List V) : cutV xs (some 1) none = xs.drop 1 := by
  have e : HT.sIx xs.length 0 (some 1) = min 1 xs.length := HT.sIx_nat xs.length 0 1
  unfold cutV
  rw [e, HT.sIx_none]
  cases xs with
  | nil => rfl
  | cons a xs =>
    have e2 : min 1 (a :: xs).length = 1 := by rw [List.length_cons]; omega
    rw [e2, List.take_of_length_le (by rw [List.length_drop]; exact Nat.le_refl _)]
theorem clt_lex {c d : Cell} (h : clt c d) : HT.lexLt [c.1, c.2] [d.1, d.2] = true := by
  rw [HT.lexLt_cons, HT.lexLt_cons, HT.lexLt_nil_nil]
  rcases h with h | ⟨h1, h2⟩
  · rw [if_neg (by omega), decide_eq_true h]
  · rw [if_pos h1, if_neg (by omega), decide_eq_true h2]
theorem srt_next {fl : List Cell} (h : fl.Pairwise clt) {i : Nat} {c d : Cell} (hc : fl[i]? = some c) (hd : fl[i + 1]? = some d) : clt c d := by
  obtain ⟨h1, e1⟩ := List.getElem?_eq_some_iff.mp hc
  obtain ⟨h2, e2⟩ := List.getElem?_eq_some_iff.mp hd
  have := List.pairwise_iff_getElem.mp h i (i + 1) h1 h2 (by omega)
  rw [e1, e2] at this
  exact this
theorem w_rises {P : Program} {w : World} {K : PySem.W.Frag} {mg : Str → Option Value} {base : Heap} (T : TX K w mg) (D : Dn K mg "rises" t_rises) : Cl P w K mg base 1 "rises" (s_rises P w K) := by
  refine mk_cl D sc_rises (fun _ _ _ _ _ _ us hl => match us, hl with | [_], _ => rfl) (fun vs H Q E h => by obtain ⟨_, rfl, _⟩ := h; rfl) (fun f cdv A outer s H vs Q E hr h => ?_)
  obtain ⟨v0, rfl, h⟩ := h
  refine ⟨_, (pss_one (ps_ret (pe_callB (cr_all rfl) (by rfl) T.all (by decide +kernel) (pa_cons (pe_lc (own := [("one", 1), ("later", 2)]) (g := (gTup _ 2 (gCons (gName 1) (gCons (gName 2) (gNil))))) rfl sc_rises.nd (RZ.pi_zipA (by rfl) T.zip (pa_cons (pv 0) (pa_cons (pe_slice sl_tupA (pv 0) (po_some pe_int) po_none) pa_nil))) (blkOk_by (N := N_rises) (sc := defScope t_rises) (by decide +kernel)) (fun _ _ _ _ _ => pg_tup rfl (pgs_cons (pg_name (i := 1) sc_rises.nd rfl (Or.inl rfl)) (pgs_cons (pg_name (i := 2) sc_rises.nd rfl (Or.inl rfl)) pgs_nil))) (fun _ _ _ _ _ => pts_nil) (fun _ _ _ _ _ => (pe_cmpR (r := rLtT K) (op_ltT hr.units0) (pv 1) (pv 2) (nomark _)))) pa_nil)))), ?_⟩
  obtain ⟨a, fl, rfl, hf, ok, q⟩ := h
  obtain ⟨as, hs, hc, hl⟩ := hf.sq (K := K)
  have h1 := ok.ne
  have h5 := ok.le
  have hn : (as.map V.ref).length = fl.length := by rw [List.length_map, hl]
  refine ⟨_, rfl, _, rfl, 1, rfl, a, _, rfl, hs, fun z => ?_, fun _ p hp => ?_⟩
  · have e : HT.sIx (as.map V.ref).length 0 (some 1) = min 1 (as.map V.ref).length := HT.sIx_nat _ 0 1
    have := z.1
    omega
  have s1 : Same H (upd H p (.tup (cutV (as.map V.ref) (some 1) none))) := same_new hp
  refine ⟨a, p, as.map V.ref, (as.map V.ref).drop 1, rfl, .inr ⟨sqS s1 hs, SqT.of (by rw [← cut1]; exact upd_same), fun D hD => ?_⟩⟩
  refine lc_map (walk_zipT (xs := as.map V.ref) (ys := (as.map V.ref).drop 1) (n := fl.length - 1) (by rw [List.length_drop, hn]; omega)) (yes (fl.length - 1)) (yes_length _) (small9 (by omega)) hD
    (fun H2 s2 => ⟨sqS s2 (sqS s1 hs), sqS s2 (SqT.of (by rw [← cut1]; exact upd_same))⟩) (fun i x y H2 H3 R hi hy s2 hY q3 => ?_) (fun H2 s2 e => ?_)
  · obtain ⟨T, u, v, rfl, hT, rfl, hu, hv⟩ := hY
    cases yes_get hy
    obtain ⟨b1, c1, rfl, e1, t1⟩ := hc.at hu
    have hv : ((as.map V.ref).drop 1)[i]? = some v := hv
    rw [List.getElem?_drop] at hv
    obtain ⟨b2, c2, rfl, e2, t2⟩ := hc.at hv
    have s3 : Same H (upd H2 T (.tup [.ref b1, .ref b2])) := s1.trans (s2.trans (same_new hT))
    refine ⟨T, _, rfl, SqT.of upd_same, rfl, _, _, rfl, _, _, rfl, rfl, rfl, ?_⟩
    refine ⟨_, rfl, _, rfl, b1, b2, [c1.1, c1.2], [c2.1, c2.2], rfl, rfl, SqT.of (s3 _ _ t1), SqT.of (s3 _ _ t2), ?_⟩
    rw [clt_lex (srt_next ok.srt e1 (by rw [Nat.add_comm]; exact e2))]
    exact q3 _ (same_new hT)
  · refine ⟨D, List.replicate _ true, rfl, SqL.of e, ?_⟩
    rw [yes_all]
    exact q _ (s1.trans s2)
theorem w_is_cell {P : Program} {w : World} {K : PySem.W.Frag} {mg : Str → Option Value} {base : Heap} (T : TX K w mg) (D : Dn K mg "is_cell" t_is_cell) (c_are_some : Cl P w K mg base 1 "are_some" (s_are_some P w K)) (c_is_among : Cl P w K mg base 2 "is_among" (s_is_among P w K)) : Cl P w K mg base 3 "is_cell" (s_is_cell P w K) := by
  refine mk_cl D sc_is_cell (fun _ _ _ _ _ _ us hl => match us, hl with | [_], _ => rfl) (fun vs H Q E h => by obtain ⟨_, rfl, _⟩ := h; rfl) (fun f cdv A outer s H vs Q E hr h => ?_)
  obtain ⟨v0, rfl, h⟩ := h
  refine ⟨_, (pss_one (ps_ret (pe_and (pe_d c_are_some hr (by decide) (by rfl) (pa_cons (pv 0) (pa_cons pe_int (pa_cons pe_int pa_nil)))) (pe_one (pe_callB (cr_all rfl) (by rfl) T.all (by decide +kernel) (pa_cons (pe_lc (own := [("one", 1)]) (g := (gName 1)) rfl sc_is_cell.nd (pi_tup (pv 0)) (blkOk_by (N := N_is_cell) (sc := defScope t_is_cell) (by decide +kernel)) (fun _ _ _ _ _ => pg_name (i := 1) sc_is_cell.nd rfl (Or.inl rfl)) (fun _ _ _ _ _ => pts_nil) (fun _ _ _ _ _ => (pe_d c_is_among hr (by decide) (by rfl) (pa_cons (pv 1) (pa_cons pe_int (pa_cons (g_wide T (by rfl)) pa_nil)))))) pa_nil)))))), ?_⟩
  obtain ⟨a, c, rfl, hc, hg, q⟩ := h
  refine ⟨_, rfl, _, _, _, rfl, a, _, 2, 2, rfl, hc.rd, rfl, rfl, by simp, by simp, true, rfl, ?_⟩
  refine ⟨_, rfl, a, rfl, ⟨_, SqT.of hc⟩, fun D hD => ?_⟩
  refine lc_map (walk_tup (xs := [.int c.1, .int c.2])) (yes 2) (yes_length _) (small9 (by show 2 ≤ 100000; decide)) hD (fun H2 s2 => sqS s2 (SqT.of hc)) (fun i x y H2 H3 R hi hy s2 hY q3 => ?_) (fun H2 s2 e => ?_)
  · obtain ⟨rfl, hx⟩ := hY
    cases yes_get hy
    have hr4 : ∃ n, x = .int n ∧ 0 ≤ n ∧ n ≤ 3 := by
      obtain ⟨g1, g2, g3, g4⟩ := hg
      match i, hx with
      | 0, hx => exact ⟨c.1, (Option.some.inj hx).symm, g1, g2⟩
      | 1, hx => exact ⟨c.2, (Option.some.inj hx).symm, g3, g4⟩
    obtain ⟨n, rfl, g1, g2⟩ := hr4
    exact ⟨rfl, _, rfl, _, _, _, rfl, n, 0, 3, rfl, rfl, rfl, g1, g2, q3 _ fun _ _ e => e⟩
  · refine ⟨D, List.replicate _ true, rfl, SqL.of e, ?_⟩
    rw [yes_all]
    exact q _ s2
theorem w_is_floor {P : Program} {w : World} {K : PySem.W.Frag} {mg : Str → Option Value} {base : Heap} (T : TX K w mg) (D : Dn K mg "is_floor" t_is_floor) (c_are_some : Cl P w K mg base 1 "are_some" (s_are_some P w K)) (c_is_cell : Cl P w K mg base 3 "is_cell" (s_is_cell P w K)) (c_rises : Cl P w K mg base 1 "rises" (s_rises P w K)) : Cl P w K mg base 4 "is_floor" (s_is_floor P w K) := by
  refine mk_cl D sc_is_floor (fun _ _ _ _ _ _ us hl => match us, hl with | [_], _ => rfl) (fun vs H Q E h => by obtain ⟨_, rfl, _⟩ := h; rfl) (fun f cdv A outer s H vs Q E hr h => ?_)
  obtain ⟨v0, rfl, h⟩ := h
  refine ⟨_, (pss_one (ps_ret (pe_and (pe_d c_are_some hr (by decide) (by rfl) (pa_cons (pv 0) (pa_cons pe_int (pa_cons (g_cells T (by rfl)) pa_nil)))) (pe_and (pe_callB (cr_all rfl) (by rfl) T.all (by decide +kernel) (pa_cons (pe_lc (own := [("cell", 1)]) (g := (gName 1)) rfl sc_is_floor.nd (pi_tup (pv 0)) (blkOk_by (N := N_is_floor) (sc := defScope t_is_floor) (by decide +kernel)) (fun _ _ _ _ _ => pg_name (i := 1) sc_is_floor.nd rfl (Or.inl rfl)) (fun _ _ _ _ _ => pts_nil) (fun _ _ _ _ _ => (pe_d c_is_cell hr (by decide) (by rfl) (pa_cons (pv 1) pa_nil)))) pa_nil)) (pe_one (pe_d c_rises hr (by decide) (by rfl) (pa_cons (pv 0) pa_nil))))))), ?_⟩
  obtain ⟨a, fl, rfl, hf, ok, q⟩ := h
  obtain ⟨as, hrd, hc, hl⟩ := hf.sq2
  have hs : SqT K H a (as.map V.ref) := rd_sq hrd
  have h1 := ok.ne
  have h5 := ok.le
  have hn : (as.map V.ref).length = fl.length := by rw [List.length_map, hl]
  refine ⟨_, rfl, _, _, _, rfl, a, _, 1, 9, rfl, hrd, rfl, rfl, by omega, by omega, true, rfl, ?_⟩
  refine ⟨_, rfl, a, rfl, ⟨_, hs⟩, fun D hD => ?_⟩
  refine lc_map (walk_tup (xs := as.map V.ref)) (yes fl.length) (by rw [yes_length, hn]) (small9 (by omega)) hD (fun H2 s2 => sqS s2 hs) (fun i x y H2 H3 R hi hy s2 hY q3 => ?_) (fun H2 s2 e => ?_)
  · obtain ⟨rfl, hx⟩ := hY
    cases yes_get hy
    obtain ⟨b1, c1, rfl, e1, t1⟩ := hc.at hx
    exact ⟨rfl, _, rfl, _, rfl, b1, c1, rfl, s2 _ _ t1, ok.rng _ (List.mem_of_getElem? e1), fun H4 s4 => q3 _ s4⟩
  · refine ⟨D, List.replicate _ true, rfl, SqL.of e, ?_⟩
    rw [yes_all]
    refine ⟨true, rfl, _, rfl, _, rfl, a, fl, rfl, hf.same s2, ok, fun H3 s3 => ?_⟩
    exact q _ (s2.trans s3)
theorem w_need_floor {P : Program} {w : World} {K : PySem.W.Frag} {mg : Str → Option Value} {base : Heap} (T : TX K w mg) (D : Dn K mg "need_floor" t_need_floor) (c_is_floor : Cl P w K mg base 4 "is_floor" (s_is_floor P w K)) : Cl P w K mg base 5 "need_floor" (s_need_floor P w K) := by
  refine mk_cl D sc_need_floor (fun _ _ _ _ _ _ us hl => match us, hl with | [_], _ => rfl) (fun vs H Q E h => by obtain ⟨_, rfl, _⟩ := h; rfl) (fun f cdv A outer s H vs Q E hr h => ?_)
  obtain ⟨v0, rfl, h⟩ := h
  refine ⟨_, (pss_one (ps_if (pt_not (pt_val (pe_d c_is_floor hr (by decide) (by rfl) (pa_cons (pv 0) pa_nil)))) (pss_one ps_never) pss_nil)), ?_⟩
  obtain ⟨a, fl, rfl, hf, ok, q⟩ := h
  refine ⟨_, rfl, _, rfl, a, fl, rfl, hf, ok, fun H3 s3 => ⟨true, rfl, ?_⟩⟩
  exact q _ s3
end TM
end
/-! ## TW2 -/
section
namespace TM
open PySem PySem.Spec PyProof.Rows L2
def s_is_cell_of (P : Program) (w : World) (K : PySem.W.Frag) : Sp := sp2 fun x y H Q => ∃ a b fl c, x = .ref a ∧ y = .ref b ∧ FlAt H a fl ∧ FlOk fl ∧ CellAt H b c ∧ c ∈ fl ∧ ∀ H', Same H H' → Q (.bl true) H'
def s_need_cell (P : Program) (w : World) (K : PySem.W.Frag) : Sp := sp2 fun x y H Q => ∃ a b fl c, x = .ref a ∧ y = .ref b ∧ FlAt H a fl ∧ FlOk fl ∧ CellAt H b c ∧ c ∈ fl ∧ ∀ H', Same H H' → Q .non H'
def s_is_lying (P : Program) (w : World) (K : PySem.W.Frag) : Sp := sp1 fun x H Q => ∃ b y, x = .ref b ∧ LyAt H b y ∧ y ∈ allLy ∧ ∀ H', Same H H' → Q (.bl true) H'
def s_need_lying (P : Program) (w : World) (K : PySem.W.Frag) : Sp := sp1 fun x H Q => ∃ b y, x = .ref b ∧ LyAt H b y ∧ y ∈ allLy ∧ ∀ H', Same H H' → Q .non H'
def s_rolled (P : Program) (w : World) (K : PySem.W.Frag) : Sp := sp2 fun x z H Q => ∃ b y l, x = .ref b ∧ z = .str (ltS l) ∧ LyAt H b y ∧ ∀ p H', Same H H' → LyAt H' p (rol y l) → Q (.ref p) H'
def s_beside (P : Program) (w : World) (K : PySem.W.Frag) : Sp := sp2 fun x z H Q => ∃ b c l, x = .ref b ∧ z = .str (ltS l) ∧ CellAt H b c ∧ ∀ p H', Same H H' → CellAt H' p (bes c l) → Q (.ref p) H'
theorem w_is_cell_of {P : Program} {w : World} {K : PySem.W.Frag} {mg : Str → Option Value} {base : Heap} (T : TX K w mg) (D : Dn K mg "is_cell_of" t_is_cell_of) (c_is_cell : Cl P w K mg base 3 "is_cell" (s_is_cell P w K)) : Cl P w K mg base 4 "is_cell_of" (s_is_cell_of P w K) := by
  refine mk_cl D sc_is_cell_of (fun _ _ _ _ _ _ us hl => match us, hl with | [_, _], _ => rfl) (fun vs H Q E h => by obtain ⟨_, _, rfl, _⟩ := h; rfl) (fun f cdv A outer s H vs Q E hr h => ?_)
  obtain ⟨v0, v1, rfl, h⟩ := h
  refine ⟨_, (pss_one (ps_ret (pe_and (pe_d c_is_cell hr (by decide) (by rfl) (pa_cons (pv 1) pa_nil)) (pe_one (pe_cmpR (op_inFl (un9 hr)) (pv 1) (pv 0) (by rfl)))))), ?_⟩
  obtain ⟨a, b, fl, c, rfl, rfl, hf, ok, hc, hm, q⟩ := h
  refine ⟨_, rfl, _, rfl, b, c, rfl, hc, ok.rng c hm, fun H1 s1 => ⟨true, rfl, ?_⟩⟩
  refine ⟨_, rfl, _, rfl, b, a, c, fl, rfl, rfl, hc.same s1, hf.same s1, ?_⟩
  exact bl_true (Q := Q) hm (q _ s1)
theorem w_need_cell {P : Program} {w : World} {K : PySem.W.Frag} {mg : Str → Option Value} {base : Heap} (T : TX K w mg) (D : Dn K mg "need_cell" t_need_cell) (c_is_cell_of : Cl P w K mg base 4 "is_cell_of" (s_is_cell_of P w K)) : Cl P w K mg base 5 "need_cell" (s_need_cell P w K) := by
  refine mk_cl D sc_need_cell (fun _ _ _ _ _ _ us hl => match us, hl with | [_, _], _ => rfl) (fun vs H Q E h => by obtain ⟨_, _, rfl, _⟩ := h; rfl) (fun f cdv A outer s H vs Q E hr h => ?_)
  obtain ⟨v0, v1, rfl, h⟩ := h
  refine ⟨_, (pss_one (ps_if (pt_not (pt_val (pe_d c_is_cell_of hr (by decide) (by rfl) (pa_cons (pv 0) (pa_cons (pv 1) pa_nil))))) (pss_one ps_never) pss_nil)), ?_⟩
  obtain ⟨a, b, fl, c, rfl, rfl, hf, ok, hc, hm, q⟩ := h
  refine ⟨_, rfl, _, rfl, _, _, rfl, a, b, fl, c, rfl, rfl, hf, ok, hc, hm, fun H1 s1 => ⟨true, rfl, ?_⟩⟩
  exact q _ s1
def mf (i : Int) : Int := if 5 - i < i then 5 - i else i
theorem ly_diff : ∀ y ∈ allLy, mf y.1 ≠ mf y.2.1 ∧ mf y.1 ≠ mf y.2.2 ∧ mf y.2.1 ≠ mf y.2.2 := by decide +kernel
def oddOf (y : Ly) : Int := (if decide (mf y.2.1 < mf y.1) = true then 1 else 0) + (if decide (mf y.2.2 < mf y.1) = true then 1 else 0) + (if decide (mf y.2.2 < mf y.2.1) = true then 1 else 0)
def bigOf (y : Ly) : Nat := ([y.1, y.2.1, y.2.2].filter fun i => decide (2 < i)).length
theorem ly_even : ∀ y ∈ allLy, (oddOf y + (bigOf y : Int)) % 2 = 0 := by decide +kernel
theorem ly_rng : ∀ y ∈ allLy, ∀ i ∈ [y.1, y.2.1, y.2.2], 0 ≤ i ∧ i ≤ 5 := by decide +kernel
theorem LyAt.rd {H : Hp} {a : Addr} {y : Ly} (h : LyAt H a y) : Rd H a (.tup ([y.1, y.2.1, y.2.2].map V.int)) := .inl h
def isBig (v : V) : Bool := match v with
  | .int i => decide (2 < i)
  | _ => false
theorem w_is_lying {P : Program} {w : World} {K : PySem.W.Frag} {mg : Str → Option Value} {base : Heap} (T : TX K w mg) (D : Dn K mg "is_lying" t_is_lying) (c_are_some : Cl P w K mg base 1 "are_some" (s_are_some P w K)) (c_is_among : Cl P w K mg base 2 "is_among" (s_is_among P w K)) : Cl P w K mg base 3 "is_lying" (s_is_lying P w K) := by
  refine mk_cl D sc_is_lying (fun _ _ _ _ _ _ us hl => match us, hl with | [_], _ => rfl) (fun vs H Q E h => by obtain ⟨_, rfl, _⟩ := h; rfl) (fun f cdv A outer s H vs Q E hr h => ?_)
  obtain ⟨v0, rfl, h⟩ := h
  refine ⟨_, (pss_cons (ps_if ((pw_or (pt_not (pt_val (pe_d c_are_some hr (by decide) (by rfl) (pa_cons (pv 0) (pa_cons pe_int (pa_cons pe_int pa_nil)))))) (pw_or1 (pt_not (pt_val (pe_callB (cr_all rfl) (by rfl) T.all (by decide +kernel) (pa_cons (pe_lc (own := [("face", 5)]) (g := (gName 5)) rfl sc_is_lying.nd (pi_tup (pv 0)) (blkOk_by (N := N_is_lying) (sc := defScope t_is_lying) (by decide +kernel)) (fun _ _ _ _ _ => pg_name (i := 5) sc_is_lying.nd rfl (Or.inl rfl)) (fun _ _ _ _ _ => pts_nil) (fun _ _ _ _ _ => (pe_d c_is_among hr (by decide) (by rfl) (pa_cons (pv 5) (pa_cons pe_int (pa_cons (g_last T (by rfl)) pa_nil)))))) pa_nil))))))).pt (pss_one (ps_ret pe_bl)) pss_nil)
      (pss_cons (ps_asg (pe_lc (own := [("face", 5)]) (g := (gName 5)) rfl sc_is_lying.nd (pi_tup (pv 0)) (blkOk_by (N := N_is_lying) (sc := defScope t_is_lying) (by decide +kernel)) (fun _ _ _ _ _ => pg_name (i := 5) sc_is_lying.nd rfl (Or.inl rfl)) (fun _ _ _ _ _ => pts_nil) (fun _ _ _ _ _ => (pe_callB (call_min2 rfl) (by rfl) T.min (by decide +kernel) (pa_cons (pv 5) (pa_cons (pe_op op_sub (g_last T (by rfl)) (pv 5)) pa_nil))))) (pg_unl rfl (pgs_cons (pg_name (i := 1) sc_is_lying.nd rfl (.inl rfl)) (pgs_cons (pg_name (i := 2) sc_is_lying.nd rfl (.inl rfl)) (pgs_cons (pg_name (i := 3) sc_is_lying.nd rfl (.inl rfl)) pgs_nil)))))
      (pss_cons (ps_if ((pw_or (pt_cmpR op_eq (pv 1) (pv 2) (nomark _)) (pw_or (pt_cmpR op_eq (pv 1) (pv 3) (nomark _)) (pw_or1 (pt_cmpR op_eq (pv 2) (pv 3) (nomark _)))))).pt (pss_one (ps_ret pe_bl)) pss_nil)
      (pss_cons (ps_set (i := 4) sc_is_lying.nd rfl (.inl rfl) (pe_op op_add (pe_op op_add (pe_callTy call_int1 (by rfl) T.int (by decide +kernel) (pa_cons (pe_cmpR op_gt (pv 1) (pv 2) (nomark _)) pa_nil)) (pe_callTy call_int1 (by rfl) T.int (by decide +kernel) (pa_cons (pe_cmpR op_gt (pv 1) (pv 3) (nomark _)) pa_nil))) (pe_callTy call_int1 (by rfl) T.int (by decide +kernel) (pa_cons (pe_cmpR op_gt (pv 2) (pv 3) (nomark _)) pa_nil))))
      (pss_one (ps_ret (pe_cmpR op_eq (pe_op op_mod (pe_op op_add (pv 4) (pe_callB call_len_seq (by rfl) T.len (by decide +kernel) (pa_cons (pe_lc (own := [("face", 5)]) (g := (gName 5)) rfl sc_is_lying.nd (pi_tup (pv 0)) (blkOk_by (N := N_is_lying) (sc := defScope t_is_lying) (by decide +kernel)) (fun _ _ _ _ _ => pg_name (i := 5) sc_is_lying.nd rfl (Or.inl rfl)) (fun _ _ _ _ _ => pts_one (pt_cmpR op_gt (pv 5) (pe_op op_fdiv (g_last T (by rfl)) pe_int) (nomark _))) (fun _ _ _ _ _ => (pv 5))) pa_nil))) pe_int) pe_int (nomark _)))))))), ?_⟩
  obtain ⟨b, y, rfl, hy, hm, q⟩ := h
  refine ⟨_, rfl, _, _, _, rfl, b, _, 3, 3, rfl, hy.rd, rfl, rfl, by simp, by simp, true, rfl, ?_⟩
  refine ⟨_, rfl, b, rfl, ⟨_, rd_sq hy.rd⟩, fun D hD => ?_⟩
  refine lc_map (walk_tup (xs := [y.1, y.2.1, y.2.2].map V.int)) (yes 3) (yes_length _) (two_le 3 (by decide)) hD (fun H2 s2 => sqS s2 (rd_sq hy.rd)) (fun i x v H2 H3 R hi hv s2 hY q3 => ?_) (fun H2 s2 e => ?_)
  · obtain ⟨rfl, hx⟩ := hY
    cases yes_get hv
    rw [List.getElem?_map] at hx
    obtain ⟨n, hn, rfl⟩ := Option.map_eq_some_iff.mp hx
    obtain ⟨g1, g2⟩ := ly_rng y hm n (List.mem_of_getElem? hn)
    exact ⟨rfl, _, rfl, _, _, _, rfl, n, 0, 5, rfl, rfl, rfl, g1, g2, q3 _ fun _ _ e => e⟩
  refine ⟨D, List.replicate _ true, rfl, SqL.of e, ?_⟩
  rw [yes_all]
  refine ⟨true, rfl, ?_⟩
  refine ⟨_, rfl, b, rfl, ⟨_, sqS s2 (rd_sq hy.rd)⟩, fun D2 hD2 => ?_⟩
  refine lc_map (walk_tup (xs := [y.1, y.2.1, y.2.2].map V.int)) ([mf y.1, mf y.2.1, mf y.2.2].map V.int) rfl (two_le 3 (by decide)) hD2 (fun H3 s3 => sqS s3 (sqS s2 (rd_sq hy.rd))) (fun i x v H3 H4 R hi hv s3 hY q3 => ?_) (fun H3 s3 e3 => ?_)
  · obtain ⟨rfl, hx⟩ := hY
    rw [List.getElem?_map] at hx
    obtain ⟨n, hn, rfl⟩ := Option.map_eq_some_iff.mp hx
    have ev : v = .int (mf n) := by
      match i, hn, hv with
      | 0, hn, hv => cases hn; cases hv; rfl
      | 1, hn, hv => cases hn; cases hv; rfl
      | 2, hn, hv => cases hn; cases hv; rfl
    subst ev
    refine ⟨rfl, _, rfl, _, rfl, 5, n, rfl, rfl, n, 5 - n, rfl, q3 _ fun _ _ e => e⟩
  obtain ⟨d1, d2, d3⟩ := ly_diff y hm
  refine ⟨D2, _, rfl, SqL.of e3, rfl, _, _, rfl, _, _, rfl, _, _, rfl, rfl, ?_⟩
  refine ⟨_, rfl, _, rfl, rfl, _, rfl, ite2 (fun c => absurd (V.int.inj (of_decide_eq_true c)) d1) (fun _ => ?_)⟩
  refine ⟨_, rfl, _, rfl, rfl, _, rfl, ite2 (fun c => absurd (V.int.inj (of_decide_eq_true c)) d2) (fun _ => ?_)⟩
  refine ⟨_, rfl, _, rfl, rfl, _, rfl, ite2 (fun c => absurd (V.int.inj (of_decide_eq_true c)) d3) (fun _ => ?_)⟩
  refine ⟨_, rfl, _, rfl, _, _, rfl, rfl, .inr ⟨_, rfl, _, rfl, _, rfl, _, _, rfl, rfl, .inr ⟨_, rfl, _, _, rfl, rfl, _, rfl, _, rfl, _, _, rfl, rfl, .inr ⟨_, rfl, _, _, rfl, rfl, ?_⟩⟩⟩⟩
  have s23 := s2.trans s3
  refine ⟨_, rfl, _, rfl, b, rfl, ⟨_, sqS s23 (rd_sq hy.rd)⟩, fun D3 hD3 => ?_⟩
  refine lc_filt (walk_tup (xs := [y.1, y.2.1, y.2.2].map V.int)) ([y.1, y.2.1, y.2.2].map V.int) isBig rfl (two_le 3 (by decide)) hD3 (fun H4 s4 => sqS s4 (sqS s23 (rd_sq hy.rd))) (fun i x v H4 H5 R Rn hi hv s4 hY q3 q4 => ?_) (fun H4 s4 e4 => ?_)
  · obtain ⟨rfl, hx⟩ := hY
    obtain rfl : x = v := Option.some.inj (hx.symm.trans hv)
    rw [List.getElem?_map] at hx
    obtain ⟨n, hn, rfl⟩ := Option.map_eq_some_iff.mp hx
    refine ⟨rfl, _, rfl, 5, 2, rfl, rfl, ⟨by decide, by decide⟩, n, 2, rfl, rfl, _, rfl, ite2 (fun c => ?_) (fun c => ?_)⟩
    · exact ⟨_, rfl, q3 c _ fun _ _ e => e⟩
    · exact q4 (Bool.eq_false_iff.mpr c) _ fun _ _ e => e
  · refine ⟨D3, _, rfl, .inl (SqL.of e4), _, _, rfl, rfl, _, _, rfl, rfl, (by show (0 : Int) < 2; decide), rfl, ?_⟩
    have el : ((([y.1, y.2.1, y.2.2].map V.int).filter isBig).length : Int) = bigOf y := by
      rw [List.filter_map, List.length_map]
      rfl
    rw [el]
    exact bl_true (Q := Q) (congrArg V.int (ly_even y hm)) (q _ (s23.trans s4))
theorem w_need_lying {P : Program} {w : World} {K : PySem.W.Frag} {mg : Str → Option Value} {base : Heap} (T : TX K w mg) (D : Dn K mg "need_lying" t_need_lying) (c_is_lying : Cl P w K mg base 3 "is_lying" (s_is_lying P w K)) : Cl P w K mg base 4 "need_lying" (s_need_lying P w K) := by
  refine mk_cl D sc_need_lying (fun _ _ _ _ _ _ us hl => match us, hl with | [_], _ => rfl) (fun vs H Q E h => by obtain ⟨_, rfl, _⟩ := h; rfl) (fun f cdv A outer s H vs Q E hr h => ?_)
  obtain ⟨v0, rfl, h⟩ := h
  refine ⟨_, (pss_one (ps_if (pt_not (pt_val (pe_d c_is_lying hr (by decide) (by rfl) (pa_cons (pv 0) pa_nil)))) (pss_one ps_never) pss_nil)), ?_⟩
  obtain ⟨b, y, rfl, hy, hm, q⟩ := h
  refine ⟨_, rfl, _, rfl, b, y, rfl, hy, hm, fun H1 s1 => ⟨true, rfl, ?_⟩⟩
  exact q _ s1
theorem w_rolled {P : Program} {w : World} {K : PySem.W.Frag} {mg : Str → Option Value} {base : Heap} (T : TX K w mg) (D : Dn K mg "rolled" t_rolled) : Cl P w K mg base 1 "rolled" (s_rolled P w K) := by
  refine mk_cl D sc_rolled (fun _ _ _ _ _ _ us hl => match us, hl with | [_, _], _ => rfl) (fun vs H Q E h => by obtain ⟨_, _, rfl, _⟩ := h; rfl) (fun f cdv A outer s H vs Q E hr h => ?_)
  obtain ⟨v0, v1, rfl, h⟩ := h
  refine ⟨_, (pss_cons (ps_asg (pv 0) (pg_tup rfl (pgs_cons (pg_name (i := 2) sc_rolled.nd rfl (.inl rfl)) (pgs_cons (pg_name (i := 3) sc_rolled.nd rfl (.inl rfl)) (pgs_cons (pg_name (i := 4) sc_rolled.nd rfl (.inl rfl)) pgs_nil)))))
      (pss_cons (ps_if (pt_cmpR op_eq (pv 1) pe_str (nomark _)) (pss_one (ps_ret (pe_tup (pa_cons (pv 3) (pa_cons (pe_op op_sub (g_last T (by rfl)) (pv 2)) (pa_cons (pv 4) pa_nil)))))) pss_nil)
      (pss_cons (ps_if (pt_cmpR op_eq (pv 1) pe_str (nomark _)) (pss_one (ps_ret (pe_tup (pa_cons (pe_op op_sub (g_last T (by rfl)) (pv 3)) (pa_cons (pv 2) (pa_cons (pv 4) pa_nil)))))) pss_nil)
      (pss_cons (ps_if (pt_cmpR op_eq (pv 1) pe_str (nomark _)) (pss_one (ps_ret (pe_tup (pa_cons (pv 4) (pa_cons (pv 3) (pa_cons (pe_op op_sub (g_last T (by rfl)) (pv 2)) pa_nil)))))) pss_nil)
      (pss_one (ps_ret (pe_tup (pa_cons (pe_op op_sub (g_last T (by rfl)) (pv 4)) (pa_cons (pv 3) (pa_cons (pv 2) pa_nil)))))))))), ?_⟩
  obtain ⟨b, y, l, rfl, rfl, hy, q⟩ := h
  refine ⟨_, rfl, b, _, rfl, SqT.of hy, rfl, _, _, rfl, _, _, rfl, _, _, rfl, rfl, ?_⟩
  refine ⟨_, rfl, rfl, _, rfl, ite2 (fun c => ?_) (fun cn => ?_)⟩
  · rw [lt_eq l .n ltS_n] at c
    cases of_decide_eq_true c
    exact ⟨_, rfl, _, rfl, _, _, rfl, rfl, _, rfl, two_le _ (by show 3 ≤ 1000; decide), fun p hp => q p _ (same_new hp) upd_same⟩
  refine ⟨_, rfl, rfl, _, rfl, ite2 (fun c => ?_) (fun cs => ?_)⟩
  · rw [lt_eq l .s ltS_s] at c
    cases of_decide_eq_true c
    exact ⟨_, rfl, _, _, rfl, rfl, _, rfl, _, rfl, two_le _ (by show 3 ≤ 1000; decide), fun p hp => q p _ (same_new hp) upd_same⟩
  refine ⟨_, rfl, rfl, _, rfl, ite2 (fun c => ?_) (fun ce => ?_)⟩
  · rw [lt_eq l .e ltS_e] at c
    cases of_decide_eq_true c
    exact ⟨_, rfl, _, rfl, _, rfl, _, _, rfl, rfl, two_le _ (by show 3 ≤ 1000; decide), fun p hp => q p _ (same_new hp) upd_same⟩
  rw [lt_eq l .n ltS_n] at cn
  rw [lt_eq l .s ltS_s] at cs
  rw [lt_eq l .e ltS_e] at ce
  cases l with
  | n => exact absurd rfl cn
  | s => exact absurd rfl cs
  | e => exact absurd rfl ce
  | w => exact ⟨_, rfl, _, _, rfl, rfl, _, rfl, _, rfl, two_le _ (by show 3 ≤ 1000; decide), fun p hp => q p _ (same_new hp) upd_same⟩
theorem w_beside {P : Program} {w : World} {K : PySem.W.Frag} {mg : Str → Option Value} {base : Heap} (T : TX K w mg) (D : Dn K mg "beside" t_beside) : Cl P w K mg base 1 "beside" (s_beside P w K) := by
  obtain ⟨S0, hS0, hS1⟩ := T.steps
  refine mk_cl D sc_beside (fun _ _ _ _ _ _ us hl => match us, hl with | [_, _], _ => rfl) (fun vs H Q E h => by obtain ⟨_, _, rfl, _⟩ := h; rfl) (fun f cdv A outer s H vs Q E hr h => ?_)
  obtain ⟨v0, v1, rfl, h⟩ := h
  refine ⟨_, (pss_cons (ps_asg (pe_ix ix_kdict (pe_glob (v := .ref S0) (by rfl) hS0 rfl) (pv 1) (fun _ _ => rfl)) (pg_tup rfl (pgs_cons (pg_name (i := 2) sc_beside.nd rfl (.inl rfl)) (pgs_cons (pg_name (i := 3) sc_beside.nd rfl (.inl rfl)) pgs_nil))))
      (pss_one (ps_ret (pe_tup (pa_cons (pe_op op_add (pe_ix ix_tup (pv 0) pe_int (fun _ _ => rfl)) (pv 2)) (pa_cons (pe_op op_add (pe_ix ix_tup (pv 0) pe_int (fun _ _ => rfl)) (pv 3)) pa_nil)))))), ?_⟩
  obtain ⟨b, c, l, rfl, rfl, hc, q⟩ := h
  obtain ⟨t, k1, k2⟩ := hS1 l
  refine ⟨_, rfl, S0, _, _, rfl, rfl, k1, t, _, rfl, k2 H, rfl, _, _, rfl, _, _, rfl, rfl, ?_⟩
  refine ⟨_, rfl, b, _, 0, _, rfl, rfl, SqT.of hc, rfl, _, rfl, _, _, rfl, rfl, ?_⟩
  refine ⟨_, rfl, b, _, 1, _, rfl, rfl, SqT.of hc, rfl, _, rfl, _, _, rfl, rfl, ?_⟩
  exact ⟨two_le _ (by show 2 ≤ 1000; decide), fun p hp => q p _ (same_new hp) upd_same⟩
end TM
end
/-! ## TW3 -/
section
namespace TM
open PySem PySem.Spec PyProof.Rows L2
structure StOk (fl : List Cell) (st : Cell × Ly) : Prop where
  cell : st.1 ∈ fl
  ly : st.2 ∈ allLy
/-- a text's sign, one of a row's -/
theorem row_sign {r : List Lt} {i c : Nat} (h : (rowS r).cps[i]? = some c) : ∃ l, r[i]? = some l ∧ (⟨#[c]⟩ : Str) = ltS l := by
  obtain ⟨l, h1, h2⟩ := rowS_get h
  exact ⟨l, h1, by rw [h2]; rfl⟩
theorem in_lts (l : Lt) : ltN l ∈ ("ensw" : Str).cps.toList := by cases l <;> decide +kernel
theorem lets_split {fl : List Cell} {c : Cell} {y : Ly} {r : List Lt} {i : Nat} {l : Lt} (hl : lets fl c r) (h : r[i]? = some l) : bes (sby (c, y) (r.take i)).1 l ∈ fl ∧ sby (c, y) (r.take (i + 1)) = (bes (sby (c, y) (r.take i)).1 l, rol (sby (c, y) (r.take i)).2 l) := by
  have hi := (List.getElem?_eq_some_iff.mp h).1
  have e1 : r.take (i + 1) = r.take i ++ [l] := by rw [List.take_succ, h]; rfl
  have e2 : r = r.take i ++ (l :: r.drop (i + 1)) := by
    have hd : r.drop i = r[i] :: r.drop (i + 1) := List.drop_eq_getElem_cons hi
    have el : r[i] = l := (List.getElem?_eq_some_iff.mp h).2
    rw [el] at hd
    rw [← hd, List.take_append_drop]
  refine ⟨?_, ?_⟩
  · rw [e2] at hl
    have := (lets_append fl (c, y) (r.take i) (l :: r.drop (i + 1))).mp hl
    exact this.2.1
  · rw [e1, sby_append]
    rfl
def s_need_row (P : Program) (w : World) (K : PySem.W.Frag) : Sp := sp1 fun x H Q => ∃ r, x = .str (rowS r) ∧ r.length ≤ 10000 ∧ ∀ H', Same H H' → Q .non H'
def s_off_at (P : Program) (w : World) (K : PySem.W.Frag) : Sp := sp3 fun x y z H Q => ∃ a b fl c r, x = .ref a ∧ y = .ref b ∧ z = .str (rowS r) ∧ FlAt H a fl ∧ CellAt H b c ∧ lets fl c r ∧ r.length ≤ 10000 ∧ ∀ H', Same H H' → Q .non H'
def s_need_let (P : Program) (w : World) (K : PySem.W.Frag) : Sp := sp3 fun x y z H Q => ∃ a b fl c r, x = .ref a ∧ y = .ref b ∧ z = .str (rowS r) ∧ FlAt H a fl ∧ CellAt H b c ∧ lets fl c r ∧ r.length ≤ 10000 ∧ ∀ H', Same H H' → Q .non H'
def s_stand_by (P : Program) (w : World) (K : PySem.W.Frag) : Sp := sp2 fun x z H Q => ∃ a st r, x = .ref a ∧ z = .str (rowS r) ∧ StAt H a st ∧ ∀ p H', Same H H' → StAt H' p (sby st r) → Q (.ref p) H'
def s_stand_behind (P : Program) (w : World) (K : PySem.W.Frag) : Sp := sp4 fun x y u z H Q => ∃ a b d fl c ly r, x = .ref a ∧ y = .ref b ∧ u = .ref d ∧ z = .str (rowS r) ∧ FlAt H a fl ∧ FlOk fl ∧ CellAt H b c ∧ LyAt H d ly ∧ StOk fl (c, ly) ∧ lets fl c r ∧ r.length ≤ 10000 ∧
  ∀ p H', Same H H' → StAt H' p (sby (c, ly) r) → Q (.ref p) H'
def s_is_stand (P : Program) (w : World) (K : PySem.W.Frag) : Sp := sp2 fun x y H Q => ∃ a b fl st, x = .ref a ∧ y = .ref b ∧ FlAt H a fl ∧ FlOk fl ∧ StAt H b st ∧ StOk fl st ∧ ∀ H', Same H H' → Q (.bl true) H'
def s_need_stand (P : Program) (w : World) (K : PySem.W.Frag) : Sp := sp2 fun x y H Q => ∃ a b fl st, x = .ref a ∧ y = .ref b ∧ FlAt H a fl ∧ FlOk fl ∧ StAt H b st ∧ StOk fl st ∧ ∀ H', Same H H' → Q .non H'
theorem w_need_row {P : Program} {w : World} {K : PySem.W.Frag} {mg : Str → Option Value} {base : Heap} (T : TX K w mg) (D : Dn K mg "need_row" t_need_row) : Cl P w K mg base 1 "need_row" (s_need_row P w K) := by
  refine mk_cl D sc_need_row (fun _ _ _ _ _ _ us hl => match us, hl with | [_], _ => rfl) (fun vs H Q E h => by obtain ⟨_, rfl, _⟩ := h; rfl) (fun f cdv A outer s H vs Q E hr h => ?_)
  obtain ⟨v0, rfl, h⟩ := h
  refine ⟨_, (pss_one (ps_if ((pw_or (pt_not (pt_val (pe_callB call_isi (by rfl) T.isi (by decide +kernel) (pa_cons (pv 0) (pa_cons (pe_bltn (v := V.ty "str") (u := Value.type "str") (by rfl) T.str (by decide +kernel) rfl) pa_nil))))) (pw_or1 (pt_not (pt_val (pe_callB (cr_all rfl) (by rfl) T.all (by decide +kernel) (pa_cons (pe_lc (own := [("letter", 1)]) (g := (gName 1)) rfl sc_need_row.nd (pi_str (pv 0)) (blkOk_by (N := N_need_row) (sc := defScope t_need_row) (by decide +kernel)) (fun _ _ _ _ _ => pg_name (i := 1) sc_need_row.nd rfl (Or.inl rfl)) (fun _ _ _ _ _ => pts_nil) (fun _ _ _ _ _ => (pe_cmpR op_in_sign (pv 1) (g_lets T (by rfl)) (by rfl)))) pa_nil))))))).pt (pss_one ps_never) pss_nil)), ?_⟩
  obtain ⟨r, rfl, hz, q⟩ := h
  refine ⟨_, rfl, _, _, _, _, true, rfl, .ty _, .base (.str _), kit_ty (by decide +kernel), true, rfl, ?_⟩
  refine ⟨_, rfl, _, rfl, fun D hD => ?_⟩
  refine lc_map (walk_str (z := rowS r)) (yes r.length) (by rw [yes_length, rowS_size]) (by rw [rowS_size, sizeLine_eq]; omega) hD (fun _ _ => True.intro) (fun i x y H2 H3 R hi hy s2 hY q3 => ?_) (fun H2 s2 e => ?_)
  · obtain ⟨rfl, c, hc, rfl⟩ := hY
    cases yes_get hy
    obtain ⟨l, _, hl⟩ := rowS_get hc
    refine ⟨rfl, _, rfl, c, _, rfl, rfl, ?_⟩
    rw [decide_eq_true (by rw [hl]; exact in_lts l)]
    exact q3 _ fun _ _ e => e
  · refine ⟨D, List.replicate _ true, rfl, SqL.of e, ?_⟩
    rw [yes_all]
    exact ⟨true, rfl, q _ s2⟩
theorem w_off_at {P : Program} {w : World} {K : PySem.W.Frag} {mg : Str → Option Value} {base : Heap} (T : TX K w mg) (D : Dn K mg "off_at" t_off_at) (c_beside : Cl P w K mg base 1 "beside" (s_beside P w K)) : Cl P w K mg base 2 "off_at" (s_off_at P w K) := by
  refine mk_cl D sc_off_at (fun _ _ _ _ _ _ us hl => match us, hl with | [_, _, _], _ => rfl) (fun vs H Q E h => by obtain ⟨_, _, _, rfl, _⟩ := h; rfl) (fun f cdv A outer s H vs Q E hr h => ?_)
  obtain ⟨v0, v1, v2, rfl, h⟩ := h
  refine ⟨_, (pss_cons (ps_for PassesOwn.never rfl (pi_etext (by rfl) T.enum (pa_cons (pv 2) pa_nil)) (pg_tup rfl (pgs_cons (pg_name (i := 3) sc_off_at.nd rfl (.inl rfl)) (pgs_cons (pg_name (i := 4) sc_off_at.nd rfl (.inl rfl)) pgs_nil))) (pss_cons (ps_set (i := 1) sc_off_at.nd rfl (.inl rfl) (pe_d c_beside hr (by decide) (by rfl) (pa_cons (pv 1) (pa_cons (pv 4) pa_nil))))
      (pss_one (ps_if (pt_cmpR (op_notInFl (un9 hr)) (pv 1) (pv 0) (by rfl)) (pss_one (ps_ret (pv 3))) pss_nil))))
      (pss_one (ps_ret pe_non))), ?_⟩
  obtain ⟨a, b, fl, c, r, rfl, rfl, rfl, hf, hc, hl, hz, q⟩ := h
  refine ⟨_, rfl, _, rfl, ?_⟩
  refine for_it (walk_etext (x := rowS r)) (fun i σ H1 => Same H H1 ∧ ∃ p, σ[0]? = some (some (.ref a)) ∧ σ[1]? = some (some (.ref p)) ∧ σ.length = 5 ∧ CellAt H1 p (sby (c, (0, 0, 0)) (r.take i)).1) ⟨Same.refl H, b, rfl, rfl, rfl, hc⟩ (fun _ _ _ _ _ => True.intro) (fun i x σ H1 H2 hi hP hY => ?_) (fun σ H1 hP => ?_)
  · obtain ⟨T, sg, rfl, hT, rfl, hsg⟩ := hY
    obtain ⟨s1, p, e0, e1, e5, hp⟩ := hP
    obtain ⟨l, h1, h2⟩ := row_sign hsg
    obtain ⟨m1, m2⟩ := lets_split (y := (0, 0, 0)) hl h1
    obtain ⟨v0, v1, v2, v3, v4, rfl⟩ : ∃ v0 v1 v2 v3 v4, σ = [v0, v1, v2, v3, v4] := by
      match σ, e5 with
      | [v0, v1, v2, v3, v4], _ => exact ⟨_, _, _, _, _, rfl⟩
    cases e0
    cases e1
    rw [h2]
    have s2 : Same H1 (upd H1 T (.tup [.int (i : Nat), .str (ltS l)])) := same_new hT
    refine ⟨T, _, rfl, SqT.of upd_same, rfl, _, _, rfl, _, _, rfl, rfl, ?_⟩
    refine ⟨_, rfl, _, rfl, _, _, rfl, p, _, l, rfl, rfl, hp.same s2, fun p' H3 s3 hp' => ?_⟩
    have s4 := s1.trans (s2.trans s3)
    refine ⟨_, rfl, _, rfl, p', a, _, fl, rfl, rfl, hp', hf.same s4, _, rfl, ?_⟩
    rw [decide_eq_true m1]
    refine ⟨s4, p', rfl, rfl, rfl, ?_⟩
    rw [m2]
    exact hp'
  · exact q _ hP.1
theorem w_need_let {P : Program} {w : World} {K : PySem.W.Frag} {mg : Str → Option Value} {base : Heap} (T : TX K w mg) (D : Dn K mg "need_let" t_need_let) (c_off_at : Cl P w K mg base 2 "off_at" (s_off_at P w K)) : Cl P w K mg base 3 "need_let" (s_need_let P w K) := by
  refine mk_cl D sc_need_let (fun _ _ _ _ _ _ us hl => match us, hl with | [_, _, _], _ => rfl) (fun vs H Q E h => by obtain ⟨_, _, _, rfl, _⟩ := h; rfl) (fun f cdv A outer s H vs Q E hr h => ?_)
  obtain ⟨v0, v1, v2, rfl, h⟩ := h
  refine ⟨_, (pss_one (ps_if (pt_cmpR op_notN (pe_d c_off_at hr (by decide) (by rfl) (pa_cons (pv 0) (pa_cons (pv 1) (pa_cons (pv 2) pa_nil)))) pe_non (nomark _)) (pss_one ps_never) pss_nil)), ?_⟩
  obtain ⟨a, b, fl, c, r, rfl, rfl, rfl, hf, hc, hl, hz, q⟩ := h
  refine ⟨_, rfl, _, rfl, _, rfl, _, _, _, rfl, a, b, fl, c, r, rfl, rfl, rfl, hf, hc, hl, hz, fun H1 s1 => ⟨rfl, _, rfl, ?_⟩⟩
  exact q _ s1
theorem w_stand_by {P : Program} {w : World} {K : PySem.W.Frag} {mg : Str → Option Value} {base : Heap} (T : TX K w mg) (D : Dn K mg "stand_by" t_stand_by) (c_beside : Cl P w K mg base 1 "beside" (s_beside P w K)) (c_rolled : Cl P w K mg base 1 "rolled" (s_rolled P w K)) : Cl P w K mg base 2 "stand_by" (s_stand_by P w K) := by
  refine mk_cl D sc_stand_by (fun _ _ _ _ _ _ us hl => match us, hl with | [_, _], _ => rfl) (fun vs H Q E h => by obtain ⟨_, _, rfl, _⟩ := h; rfl) (fun f cdv A outer s H vs Q E hr h => ?_)
  obtain ⟨v0, v1, rfl, h⟩ := h
  refine ⟨_, (pss_cons (ps_asg (pv 0) (pg_tup rfl (pgs_cons (pg_name (i := 2) sc_stand_by.nd rfl (.inl rfl)) (pgs_cons (pg_name (i := 3) sc_stand_by.nd rfl (.inl rfl)) pgs_nil))))
      (pss_cons (ps_for PassesOwn.never rfl (pi_str (pv 1)) (pg_name (i := 4) sc_stand_by.nd rfl (.inl rfl)) (pss_one (ps_par (i := 2) (j := 3) rfl sc_stand_by.nd rfl rfl (by decide) rfl rfl (pa_cons (pe_d c_beside hr (by decide) (by rfl) (pa_cons (pv 2) (pa_cons (pv 4) pa_nil))) (pa_cons (pe_d c_rolled hr (by decide) (by rfl) (pa_cons (pv 3) (pa_cons (pv 4) pa_nil))) pa_nil)) (by rfl))))
      (pss_one (ps_ret (pe_tup (pa_cons (pv 2) (pa_cons (pv 3) pa_nil))))))), ?_⟩
  obtain ⟨a, st, r, rfl, rfl, ⟨pc, pl, h0, hc, hy⟩, q⟩ := h
  refine ⟨_, rfl, a, _, rfl, SqT.of h0, rfl, _, _, rfl, _, _, rfl, rfl, ?_⟩
  refine ⟨_, rfl, _, rfl, ?_⟩
  refine for_it (walk_str (z := rowS r)) (fun i σ H1 => Same H H1 ∧ ∃ p u, σ[2]? = some (some (.ref p)) ∧ σ[3]? = some (some (.ref u)) ∧ σ.length = 5 ∧ CellAt H1 p (sby st (r.take i)).1 ∧ LyAt H1 u (sby st (r.take i)).2) ⟨Same.refl H, pc, pl, rfl, rfl, rfl, hc, hy⟩ (fun _ _ _ _ _ => True.intro) (fun i x σ H1 H2 hi hP hY => ?_) (fun σ H1 hP => ?_)
  · obtain ⟨rfl, sg, hsg, rfl⟩ := hY
    obtain ⟨s1, p, u, e2, e3, e5, hp, hu⟩ := hP
    obtain ⟨l, h1, h2⟩ := row_sign hsg
    have m2 : sby st (r.take (i + 1)) = (bes (sby st (r.take i)).1 l, rol (sby st (r.take i)).2 l) := by
      rw [List.take_succ, h1, sby_append]
      rfl
    obtain ⟨v0, v1, v2, v3, v4, rfl⟩ : ∃ v0 v1 v2 v3 v4, σ = [v0, v1, v2, v3, v4] := by
      match σ, e5 with
      | [v0, v1, v2, v3, v4], _ => exact ⟨_, _, _, _, _, rfl⟩
    cases e2
    cases e3
    rw [h2]
    refine ⟨_, rfl, _, rfl, _, _, rfl, p, _, l, rfl, rfl, hp, fun p' H3 s3 hp' => ?_⟩
    refine ⟨_, rfl, _, rfl, _, _, rfl, u, _, l, rfl, rfl, hu.same s3, fun u' H4 s4 hu' => ?_⟩
    refine ⟨_, _, rfl, s1.trans (s3.trans s4), p', u', rfl, rfl, rfl, ?_⟩
    rw [m2]
    exact ⟨hp'.same s4, hu'⟩
  · obtain ⟨s1, p, u, e2, e3, e5, hp, hu⟩ := hP
    rw [List.take_of_length_le (Nat.le_of_eq (rowS_size r).symm)] at hp hu
    exact ⟨_, e2, _, e3, two_le _ (by show 2 ≤ 1000; decide), fun t ht => q t _ (s1.trans (same_new ht)) ⟨p, u, upd_same, hp.same (same_new ht), hu.same (same_new ht)⟩⟩
theorem w_stand_behind {P : Program} {w : World} {K : PySem.W.Frag} {mg : Str → Option Value} {base : Heap} (T : TX K w mg) (D : Dn K mg "stand_behind" t_stand_behind) (c_need_floor : Cl P w K mg base 5 "need_floor" (s_need_floor P w K)) (c_need_cell : Cl P w K mg base 5 "need_cell" (s_need_cell P w K)) (c_need_lying : Cl P w K mg base 4 "need_lying" (s_need_lying P w K)) (c_need_row : Cl P w K mg base 1 "need_row" (s_need_row P w K)) (c_need_let : Cl P w K mg base 3 "need_let" (s_need_let P w K)) (c_stand_by : Cl P w K mg base 2 "stand_by" (s_stand_by P w K)) : Cl P w K mg base 6 "stand_behind" (s_stand_behind P w K) := by
  refine mk_cl D sc_stand_behind (fun _ _ _ _ _ _ us hl => match us, hl with | [_, _, _, _], _ => rfl) (fun vs H Q E h => by obtain ⟨_, _, _, _, rfl, _⟩ := h; rfl) (fun f cdv A outer s H vs Q E hr h => ?_)
  obtain ⟨v0, v1, v2, v3, rfl, h⟩ := h
  refine ⟨_, (pss_cons (ps_expr (pe_d c_need_floor hr (by decide) (by rfl) (pa_cons (pv 0) pa_nil)))
      (pss_cons (ps_expr (pe_d c_need_cell hr (by decide) (by rfl) (pa_cons (pv 0) (pa_cons (pv 1) pa_nil))))
      (pss_cons (ps_expr (pe_d c_need_lying hr (by decide) (by rfl) (pa_cons (pv 2) pa_nil)))
      (pss_cons (ps_expr (pe_d c_need_row hr (by decide) (by rfl) (pa_cons (pv 3) pa_nil)))
      (pss_cons (ps_expr (pe_d c_need_let hr (by decide) (by rfl) (pa_cons (pv 0) (pa_cons (pv 1) (pa_cons (pv 3) pa_nil)))))
      (pss_one (ps_ret (pe_d c_stand_by hr (by decide) (by rfl) (pa_cons (pe_tup (pa_cons (pv 1) (pa_cons (pv 2) pa_nil))) (pa_cons (pv 3) pa_nil)))))))))), ?_⟩
  obtain ⟨a, b, d, fl, c, ly, r, rfl, rfl, rfl, rfl, hf, ok, hc, hy, so, hl, hz, q⟩ := h
  refine ⟨_, rfl, _, rfl, a, fl, rfl, hf, ok, fun H1 s1 => ?_⟩
  refine ⟨_, rfl, _, rfl, _, _, rfl, a, b, fl, c, rfl, rfl, hf.same s1, ok, hc.same s1, so.cell, fun H2 s2 => ?_⟩
  have s12 := s1.trans s2
  refine ⟨_, rfl, _, rfl, d, ly, rfl, hy.same s12, so.ly, fun H3 s3 => ?_⟩
  refine ⟨_, rfl, _, rfl, r, rfl, hz, fun H4 s4 => ?_⟩
  have s14 := s12.trans (s3.trans s4)
  refine ⟨_, rfl, _, rfl, _, rfl, _, _, _, rfl, a, b, fl, c, r, rfl, rfl, rfl, hf.same s14, hc.same s14, hl, hz, fun H5 s5 => ?_⟩
  have s15 := s14.trans s5
  refine ⟨_, rfl, _, rfl, two_le _ (by show 2 ≤ 1000; decide), fun t ht => ?_⟩
  have s6 := s15.trans (same_new (o := .tup [.ref b, .ref d]) ht)
  refine ⟨_, rfl, _, _, rfl, t, (c, ly), r, rfl, rfl, ⟨b, d, upd_same, hc.same s6, hy.same s6⟩, fun p H' s7 hp => ?_⟩
  exact q p _ (s6.trans s7) hp
theorem w_is_stand {P : Program} {w : World} {K : PySem.W.Frag} {mg : Str → Option Value} {base : Heap} (T : TX K w mg) (D : Dn K mg "is_stand" t_is_stand) (c_are_some : Cl P w K mg base 1 "are_some" (s_are_some P w K)) (c_is_cell_of : Cl P w K mg base 4 "is_cell_of" (s_is_cell_of P w K)) (c_is_lying : Cl P w K mg base 3 "is_lying" (s_is_lying P w K)) : Cl P w K mg base 5 "is_stand" (s_is_stand P w K) := by
  refine mk_cl D sc_is_stand (fun _ _ _ _ _ _ us hl => match us, hl with | [_, _], _ => rfl) (fun vs H Q E h => by obtain ⟨_, _, rfl, _⟩ := h; rfl) (fun f cdv A outer s H vs Q E hr h => ?_)
  obtain ⟨v0, v1, rfl, h⟩ := h
  refine ⟨_, (pss_one (ps_ret (pe_and (pe_d c_are_some hr (by decide) (by rfl) (pa_cons (pv 1) (pa_cons pe_int (pa_cons pe_int pa_nil)))) (pe_and (pe_d c_is_cell_of hr (by decide) (by rfl) (pa_cons (pv 0) (pa_cons (pe_ix ix_tup (pv 1) pe_int (fun _ _ => rfl)) pa_nil))) (pe_one (pe_d c_is_lying hr (by decide) (by rfl) (pa_cons (pe_ix ix_tup (pv 1) pe_int (fun _ _ => rfl)) pa_nil))))))), ?_⟩
  obtain ⟨a, b, fl, st, rfl, rfl, hf, ok, ⟨pc, pl, h0, hc, hy⟩, so, q⟩ := h
  refine ⟨_, rfl, _, _, _, rfl, b, _, 2, 2, rfl, .inl h0, rfl, rfl, by simp, by simp, true, rfl, ?_⟩
  refine ⟨_, rfl, _, rfl, b, _, 0, _, rfl, rfl, SqT.of h0, rfl, _, _, rfl, a, pc, fl, st.1, rfl, rfl, hf, ok, hc, so.cell, fun H1 s1 => ⟨true, rfl, ?_⟩⟩
  refine ⟨_, rfl, b, _, 1, _, rfl, rfl, SqT.of (s1 _ _ h0), rfl, _, rfl, pl, st.2, rfl, hy.same s1, so.ly, fun H2 s2 => ?_⟩
  exact q _ (s1.trans s2)
theorem w_need_stand {P : Program} {w : World} {K : PySem.W.Frag} {mg : Str → Option Value} {base : Heap} (T : TX K w mg) (D : Dn K mg "need_stand" t_need_stand) (c_need_floor : Cl P w K mg base 5 "need_floor" (s_need_floor P w K)) (c_is_stand : Cl P w K mg base 5 "is_stand" (s_is_stand P w K)) : Cl P w K mg base 6 "need_stand" (s_need_stand P w K) := by
  refine mk_cl D sc_need_stand (fun _ _ _ _ _ _ us hl => match us, hl with | [_, _], _ => rfl) (fun vs H Q E h => by obtain ⟨_, _, rfl, _⟩ := h; rfl) (fun f cdv A outer s H vs Q E hr h => ?_)
  obtain ⟨v0, v1, rfl, h⟩ := h
  refine ⟨_, (pss_cons (ps_expr (pe_d c_need_floor hr (by decide) (by rfl) (pa_cons (pv 0) pa_nil)))
      (pss_one (ps_if (pt_not (pt_val (pe_d c_is_stand hr (by decide) (by rfl) (pa_cons (pv 0) (pa_cons (pv 1) pa_nil))))) (pss_one ps_never) pss_nil))), ?_⟩
  obtain ⟨a, b, fl, st, rfl, rfl, hf, ok, hst, so, q⟩ := h
  refine ⟨_, rfl, _, rfl, a, fl, rfl, hf, ok, fun H1 s1 => ?_⟩
  refine ⟨_, rfl, _, rfl, _, _, rfl, a, b, fl, st, rfl, rfl, hf.same s1, ok, hst.same s1, so, fun H2 s2 => ⟨true, rfl, ?_⟩⟩
  exact q _ (s1.trans s2)
end TM
end
/-! ## TW4 -/
section
namespace TM
open PySem PySem.Spec PyProof.Rows L2
theorem at_int {ns : List Int} {k : Int} (h0 : 0 ≤ k) (h1 : k < ns.length) : atI (ns.map V.int) k = some (.int (ns.getD k.toNat 0)) ∧ ixN (ns.map V.int).length k = some k.toNat := by
  obtain ⟨j, rfl⟩ : ∃ j : Nat, k = j := ⟨k.toNat, by omega⟩
  have hj : j < ns.length := by omega
  refine ⟨?_, ?_⟩
  · refine atI_nat ?_
    rw [List.getElem?_map, List.getElem?_eq_getElem hj]
    simp [List.getD, hj]
  · unfold ixN
    rw [List.length_map, if_pos h0, if_pos h1]
theorem inV2 (s a b : Int) : inV (.int s) [.int a, .int b] = true ↔ (s = a ∨ s = b) := by
  have e : inV (.int s) [.int a, .int b] = ((a == s) || ((b == s) || false)) := rfl
  rw [e]
  simp only [Bool.or_eq_true, beq_iff_eq, Bool.false_eq_true, or_false]
  constructor
  · rintro (h | h)
    · exact .inl h.symm
    · exact .inr h.symm
  · rintro (h | h)
    · exact .inl h.symm
    · exact .inr h.symm
theorem same_upd {H H1 : Hp} {p : Addr} {o : HO} (s : Same H H1) (h : H p = none) : Same H (upd H1 p o) := fun b u e => by
  rw [upd_ne (ne_of_none e h)]
  exact s _ _ e
theorem trd_append (fl : List Cell) : ∀ (st : Cell × Ly) (r t : List Lt) (ms : List Int), trd fl st (r ++ t) ms = trd fl (sby st r) t (trd fl st r ms)
  | _, [], _, _ => rfl
  | st, l :: r, t, ms => trd_append fl _ r t _
theorem rgV_ids (n : Nat) : rgV 0 (n : Int) = (ids n).map V.int := by
  unfold rgV ids
  rw [List.map_map]
  have e : ((n : Int) - 0).toNat = n := by omega
  rw [e]
  refine List.map_congr_left fun i _ => ?_
  show V.int (0 + (i : Nat)) = V.int (i : Nat)
  rw [Int.zero_add]
theorem mapset (ms : List Int) (i : Nat) (v : Int) : (ms.map V.int).set i (.int v) = (ms.set i v).map V.int := by rw [List.map_set]
def s_spots_of (P : Program) (w : World) (K : PySem.W.Frag) : Sp := sp1 fun x H Q => ∃ a fl, x = .ref a ∧ FlAt H a fl ∧ Q (.int (6 + (fl.length : Int))) H
def s_need_rolls (P : Program) (w : World) (K : PySem.W.Frag) : Sp := sp3 fun x y z H Q => ∃ a b fl st r, x = .ref a ∧ y = .ref b ∧ z = .str (rowS r) ∧ FlAt H a fl ∧ FlOk fl ∧ StAt H b st ∧ StOk fl st ∧ lets fl st.1 r ∧ r.length ≤ 10000 ∧ ∀ H', Same H H' → Q .non H'
def s_traded (P : Program) (w : World) (K : PySem.W.Frag) : Sp := sp4 fun x y z m H Q => ∃ a b g fl st r ms, x = .ref a ∧ y = .ref b ∧ z = .str (rowS r) ∧ m = .ref g ∧ FlAt H a fl ∧ FlOk fl ∧ StAt H b st ∧ StOk fl st ∧ lets fl st.1 r ∧ SqT K H g (ms.map V.int) ∧ ms.length = 6 + fl.length ∧
  ∀ p H', Same H H' → IntsAt H' p (trd fl st r ms) → Q (.ref p) H'
def s_turned_round (P : Program) (w : World) (K : PySem.W.Frag) : Sp := sp1 fun x H Q => ∃ a ms, x = .ref a ∧ IntsAt H a ms ∧ ms.length ≤ 1000 ∧ (∀ s : Nat, s < ms.length → (s : Int) ∈ ms) ∧ ∀ p H', Same H H' → IntsAt H' p ((List.range ms.length).map fun (s : Nat) => ((ms.idxOf (s : Int) : Nat) : Int)) → Q (.ref p) H'
def s_exchange_by (P : Program) (w : World) (K : PySem.W.Frag) : Sp := sp3 fun x y z H Q => ∃ a b fl st r, x = .ref a ∧ y = .ref b ∧ z = .str (rowS r) ∧ FlAt H a fl ∧ FlOk fl ∧ StAt H b st ∧ StOk fl st ∧ lets fl st.1 r ∧ ∀ p H', Same H H' → IntsAt H' p (exch fl st r) → Q (.ref p) H'
def s_exchange (P : Program) (w : World) (K : PySem.W.Frag) : Sp := sp3 fun x y z H Q => ∃ a b fl st r, x = .ref a ∧ y = .ref b ∧ z = .str (rowS r) ∧ FlAt H a fl ∧ FlOk fl ∧ StAt H b st ∧ StOk fl st ∧ lets fl st.1 r ∧ r.length ≤ 10000 ∧ ∀ p H', Same H H' → IntsAt H' p (exch fl st r) → Q (.ref p) H'
def s_moved (P : Program) (w : World) (K : PySem.W.Frag) : Sp := sp3 fun x y z H Q => ∃ a b fl p l, x = .ref a ∧ y = .ref b ∧ z = .str (ltS l) ∧ FlAt H a fl ∧ PlAt H b p ∧
  (mv fl p l = none → ∀ H', Same H H' → Q .non H') ∧ (∀ q, mv fl p l = some q → ∀ t H', Same H H' → PlAt H' t q → Q (.ref t) H')
theorem w_spots_of {P : Program} {w : World} {K : PySem.W.Frag} {mg : Str → Option Value} {base : Heap} (T : TX K w mg) (D : Dn K mg "spots_of" t_spots_of) : Cl P w K mg base 1 "spots_of" (s_spots_of P w K) := by
  refine mk_cl D sc_spots_of (fun _ _ _ _ _ _ us hl => match us, hl with | [_], _ => rfl) (fun vs H Q E h => by obtain ⟨_, rfl, _⟩ := h; rfl) (fun f cdv A outer s H vs Q E hr h => ?_)
  obtain ⟨v0, rfl, h⟩ := h
  refine ⟨_, (pss_one (ps_ret (pe_op op_add (g_faces T (by rfl)) (pe_callB call_len_seq (by rfl) T.len (by decide +kernel) (pa_cons (pv 0) pa_nil))))), ?_⟩
  obtain ⟨a, fl, rfl, hf, q⟩ := h
  obtain ⟨as, hs, hc, hl⟩ := hf.sq (K := K)
  refine ⟨_, rfl, a, _, rfl, .inr hs, 6, _, rfl, rfl, ?_⟩
  rw [List.length_map, hl]
  exact q
theorem w_need_rolls {P : Program} {w : World} {K : PySem.W.Frag} {mg : Str → Option Value} {base : Heap} (T : TX K w mg) (D : Dn K mg "need_rolls" t_need_rolls) (c_need_stand : Cl P w K mg base 6 "need_stand" (s_need_stand P w K)) (c_need_row : Cl P w K mg base 1 "need_row" (s_need_row P w K)) (c_need_let : Cl P w K mg base 3 "need_let" (s_need_let P w K)) : Cl P w K mg base 7 "need_rolls" (s_need_rolls P w K) := by
  refine mk_cl D sc_need_rolls (fun _ _ _ _ _ _ us hl => match us, hl with | [_, _, _], _ => rfl) (fun vs H Q E h => by obtain ⟨_, _, _, rfl, _⟩ := h; rfl) (fun f cdv A outer s H vs Q E hr h => ?_)
  obtain ⟨v0, v1, v2, rfl, h⟩ := h
  refine ⟨_, (pss_cons (ps_expr (pe_d c_need_stand hr (by decide) (by rfl) (pa_cons (pv 0) (pa_cons (pv 1) pa_nil))))
      (pss_cons (ps_expr (pe_d c_need_row hr (by decide) (by rfl) (pa_cons (pv 2) pa_nil)))
      (pss_one (ps_expr (pe_d c_need_let hr (by decide) (by rfl) (pa_cons (pv 0) (pa_cons (pe_ix ix_tup (pv 1) pe_int (fun _ _ => rfl)) (pa_cons (pv 2) pa_nil)))))))), ?_⟩
  obtain ⟨a, b, fl, st, r, rfl, rfl, rfl, hf, ok, hst, so, hl, hz, q⟩ := h
  refine ⟨_, rfl, _, rfl, _, _, rfl, a, b, fl, st, rfl, rfl, hf, ok, hst, so, fun H1 s1 => ?_⟩
  refine ⟨_, rfl, _, rfl, r, rfl, hz, fun H2 s2 => ?_⟩
  have s12 := s1.trans s2
  obtain ⟨pc, pl, h0, hc, hy⟩ := hst.same s12
  refine ⟨_, rfl, _, rfl, b, _, 0, _, rfl, rfl, SqT.of h0, rfl, _, rfl, _, _, _, rfl, a, pc, fl, st.1, r, rfl, rfl, rfl, hf.same s12, hc, hl, hz, fun H3 s3 => ?_⟩
  exact q _ (s12.trans s3)
theorem w_traded {P : Program} {w : World} {K : PySem.W.Frag} {mg : Str → Option Value} {base : Heap} (T : TX K w mg) (D : Dn K mg "traded" t_traded) (c_beside : Cl P w K mg base 1 "beside" (s_beside P w K)) (c_rolled : Cl P w K mg base 1 "rolled" (s_rolled P w K)) : Cl P w K mg base 2 "traded" (s_traded P w K) := by
  refine mk_cl D sc_traded (fun _ _ _ _ _ _ us hl => match us, hl with | [_, _, _, _], _ => rfl) (fun vs H Q E h => by obtain ⟨_, _, _, _, rfl, _⟩ := h; rfl) (fun f cdv A outer s H vs Q E hr h => ?_)
  obtain ⟨v0, v1, v2, v3, rfl, h⟩ := h
  refine ⟨_, (pss_cons (ps_asg (pe_tup (pa_cons (pe_callTy call_list_of (by rfl) T.list (by decide +kernel) (pa_cons (pv 3) pa_nil)) (pa_cons (pv 1) pa_nil))) (pg_tup rfl (pgs_cons (pg_name (i := 4) sc_traded.nd rfl (.inl rfl)) (pgs_cons (pg_tup rfl (pgs_cons (pg_name (i := 5) sc_traded.nd rfl (.inl rfl)) (pgs_cons (pg_name (i := 6) sc_traded.nd rfl (.inl rfl)) pgs_nil))) pgs_nil))))
      (pss_cons (ps_for PassesOwn.never rfl (pi_str (pv 2)) (pg_name (i := 7) sc_traded.nd rfl (.inl rfl)) (pss_cons (ps_par (i := 5) (j := 6) rfl sc_traded.nd rfl rfl (by decide) rfl rfl (pa_cons (pe_d c_beside hr (by decide) (by rfl) (pa_cons (pv 5) (pa_cons (pv 7) pa_nil))) (pa_cons (pe_d c_rolled hr (by decide) (by rfl) (pa_cons (pv 6) (pa_cons (pv 7) pa_nil))) pa_nil)) (by rfl))
      (pss_cons (ps_par (i := 8) (j := 9) rfl sc_traded.nd rfl rfl (by decide) rfl rfl (pa_cons (pe_op op_add (g_faces T (by rfl)) (pe_index (mt_indexFl (un9 hr)) (pv 0) (pa_cons (pv 5) pa_nil))) (pa_cons (pe_ix ix_tup (pv 6) pe_int (fun _ _ => rfl)) pa_nil)) (by rfl))
      (pss_one (ps_asg (pe_tup (pa_cons (pe_ix ix_list (pv 4) (pv 9) (fun _ _ => rfl)) (pa_cons (pe_ix ix_list (pv 4) (pv 8) (fun _ _ => rfl)) pa_nil))) (pg_tup rfl (pgs_cons (pg_sub (pv 4) (pv 8) set_list) (pgs_cons (pg_sub (pv 4) (pv 9) set_list) pgs_nil))))))))
      (pss_one (ps_ret (pe_callTy call_tupleF (by rfl) T.tuple (by decide +kernel) (pa_cons (pv 4) pa_nil)))))), ?_⟩
  obtain ⟨a, b, g, fl, st, r, ms, rfl, rfl, rfl, rfl, hf, ok, ⟨pc, pl, h0, hc, hy⟩, so, hl, hg, hms, q⟩ := h
  have h5 := ok.le
  refine ⟨_, rfl, g, _, rfl, .inr hg, fun p hp => ?_⟩
  refine ⟨_, rfl, two_le _ (by show 2 ≤ 1000; decide), fun t ht => ?_⟩
  have s1 : Same H (upd H p (.lst (ms.map V.int))) := same_new hp
  have s2 := s1.trans (same_new (o := .tup [.ref p, .ref b]) ht)
  refine ⟨t, _, rfl, SqT.of upd_same, rfl, _, _, rfl, _, _, rfl, b, _, rfl, SqT.of (s2 _ _ h0), rfl, _, _, rfl, _, _, rfl, rfl, rfl, ?_⟩
  refine ⟨_, rfl, _, rfl, ?_⟩
  refine for_it (walk_str (z := rowS r)) (fun i σ H1 => Same H H1 ∧ ∃ pc pl v7 v8 v9, σ = [some (.ref a), some (.ref b), some (.str (rowS r)), some (.ref g), some (.ref p), some (.ref pc), some (.ref pl), v7, v8, v9] ∧ H1 p = some (.lst ((trd fl st (r.take i) ms).map V.int)) ∧ CellAt H1 pc (sby st (r.take i)).1 ∧ LyAt H1 pl (sby st (r.take i)).2)
    ⟨s2, pc, pl, _, _, _, rfl, (by rw [upd_ne (ne_of_none upd_same ht)]; exact upd_same), hc.same s2, hy.same s2⟩ (fun _ _ _ _ _ => True.intro) (fun i x σ H1 H2 hi hP hY => ?_) (fun σ H1 hP => ?_)
  · obtain ⟨rfl, sg, hsg, rfl⟩ := hY
    obtain ⟨s3, pc, pl, v7, v8, v9, rfl, hpm, hpc, hpl⟩ := hP
    obtain ⟨l, h1, h2⟩ := row_sign hsg
    obtain ⟨m1, m2⟩ := lets_split (y := st.2) (c := st.1) hl h1
    have m1 : bes (sby st (r.take i)).1 l ∈ fl := m1
    have m2 : sby st (r.take (i + 1)) = (bes (sby st (r.take i)).1 l, rol (sby st (r.take i)).2 l) := m2
    have m3 : trd fl st (r.take (i + 1)) ms = swp (trd fl st (r.take i) ms) (own fl (bes (sby st (r.take i)).1 l)).toNat (rol (sby st (r.take i)).2 l).1.toNat := by
      rw [List.take_succ, h1, trd_append]
      rfl
    have hlen : (trd fl st (r.take i) ms).length = 6 + fl.length := by rw [trd_length, hms]
    have hly : (sby st (r.take i)).2 ∈ allLy := by
      have : ∀ (t : List Lt) (u : Cell × Ly), u.2 ∈ allLy → (sby u t).2 ∈ allLy := by
        intro t
        induction t with
        | nil => intro u hu; exact hu
        | cons m t ih => intro u hu; exact ih _ (rol_mem hu m)
      exact this _ _ so.ly
    have lo := low_all _ (rol_mem hly l)
    have og := own_ge fl (bes (sby st (r.take i)).1 l)
    have ol := own_lt m1
    rw [h2]
    refine ⟨_, rfl, _, rfl, _, _, rfl, pc, _, l, rfl, rfl, hpc, fun p' H3 s4 hp' => ?_⟩
    refine ⟨_, rfl, _, rfl, _, _, rfl, pl, _, l, rfl, rfl, hpl.same s4, fun u' H4 s5 hu' => ?_⟩
    have s45 := s4.trans s5
    have s6 := s3.trans s45
    refine ⟨_, _, rfl, ?_⟩
    obtain ⟨o, as, ho, ha, hcs⟩ := hf.same s6
    refine ⟨_, rfl, ⟨a, o, _, rfl, ho, ha⟩, _, rfl, a, p', fl, _, rfl, rfl, hf.same s6, hp'.same s5, m1, 6, _, rfl, rfl, _, rfl, u', _, 0, _, rfl, rfl, SqT.of hu', rfl, _, _, rfl, ?_⟩
    have hpm4 := s45 _ _ hpm
    obtain ⟨al, il⟩ := at_int (ns := trd fl st (r.take i) ms) (k := (rol (sby st (r.take i)).2 l).1) lo.1 (by omega)
    obtain ⟨ah, ih⟩ := at_int (ns := trd fl st (r.take i) ms) (k := own fl (bes (sby st (r.take i)).1 l)) (by omega) (by omega)
    refine ⟨_, rfl, _, rfl, p, _, _, _, rfl, rfl, SqL.of hpm4, al, _, rfl, _, rfl, p, _, _, _, rfl, rfl, SqL.of hpm4, ah, two_le _ (by show 2 ≤ 1000; decide), fun t2 ht2 => ?_⟩
    have hpm5 : upd H4 t2 (.tup [.int ((trd fl st (r.take i) ms).getD (rol (sby st (r.take i)).2 l).1.toNat 0), .int ((trd fl st (r.take i) ms).getD (own fl (bes (sby st (r.take i)).1 l)).toNat 0)]) p = some (.lst ((trd fl st (r.take i) ms).map V.int)) := by
      rw [upd_ne (ne_of_none hpm4 ht2)]
      exact hpm4
    refine ⟨t2, _, rfl, SqT.of upd_same, rfl, _, _, rfl, _, rfl, _, rfl, p, _, _, _, rfl, rfl, hpm5, ih, _, _, rfl, _, rfl, _, rfl, p, _, _, _, rfl, rfl, upd_same, (by rw [List.length_set]; exact il), rfl, ?_⟩
    have t5 : TupS H4 (upd (upd (upd H4 t2 (.tup [.int ((trd fl st (r.take i) ms).getD (rol (sby st (r.take i)).2 l).1.toNat 0), .int ((trd fl st (r.take i) ms).getD (own fl (bes (sby st (r.take i)).1 l)).toNat 0)])) p (.lst (((trd fl st (r.take i) ms).map V.int).set (own fl (bes (sby st (r.take i)).1 l)).toNat (.int ((trd fl st (r.take i) ms).getD (rol (sby st (r.take i)).2 l).1.toNat 0))))) p
        (.lst ((((trd fl st (r.take i) ms).map V.int).set (own fl (bes (sby st (r.take i)).1 l)).toNat (.int ((trd fl st (r.take i) ms).getD (rol (sby st (r.take i)).2 l).1.toNat 0))).set (rol (sby st (r.take i)).2 l).1.toNat (.int ((trd fl st (r.take i) ms).getD (own fl (bes (sby st (r.take i)).1 l)).toNat 0))))) :=
      (TupS.new ht2).trans ((TupS.upd fun xs e => by rw [hpm5] at e; cases e).trans (TupS.upd fun xs e => by rw [upd_same] at e; cases e))
    refine ⟨same_upd (same_upd (s6.trans (same_new ht2)) hp) hp, p', u', _, _, _, rfl, ?_, ?_, ?_⟩
    · rw [upd_same, m3, mapset, mapset]
      rfl
    · rw [m2]
      exact t5 _ _ (hp'.same s5)
    · rw [m2]
      exact t5 _ _ hu'
  · obtain ⟨s3, pc, pl, v7, v8, v9, rfl, hpm, hpc, hpl⟩ := hP
    rw [List.take_of_length_le (Nat.le_of_eq (rowS_size r).symm)] at hpm
    refine ⟨_, rfl, p, _, rfl, SqL.of hpm, fun l o hl ho => ?_⟩
    exact q l _ (s3.trans (same_new hl)) ⟨o, ho, upd_same⟩
theorem w_turned_round {P : Program} {w : World} {K : PySem.W.Frag} {mg : Str → Option Value} {base : Heap} (T : TX K w mg) (D : Dn K mg "turned_round" t_turned_round) : Cl P w K mg base 1 "turned_round" (s_turned_round P w K) := by
  refine mk_cl D sc_turned_round (fun _ _ _ _ _ _ us hl => match us, hl with | [_], _ => rfl) (fun vs H Q E h => by obtain ⟨_, rfl, _⟩ := h; rfl) (fun f cdv A outer s H vs Q E hr h => ?_)
  obtain ⟨v0, rfl, h⟩ := h
  refine ⟨_, (pss_one (ps_ret (pe_callTy call_tupleF (by rfl) T.tuple (by decide +kernel) (pa_cons (pe_lc (own := [("spot", 1)]) (g := (gName 1)) rfl sc_turned_round.nd (pi_range1 (by rfl) T.range (pa_cons (pe_callB call_len_seq (by rfl) T.len (by decide +kernel) (pa_cons (pv 0) pa_nil)) pa_nil)) (blkOk_by (N := N_turned_round) (sc := defScope t_turned_round) (by decide +kernel)) (fun _ _ _ _ _ => pg_name (i := 1) sc_turned_round.nd rfl (Or.inl rfl)) (fun _ _ _ _ _ => pts_nil) (fun _ _ _ _ _ => (pe_index mt_indexI (pv 0) (pa_cons (pv 1) pa_nil)))) pa_nil)))), ?_⟩
  obtain ⟨a, ms, rfl, ⟨o, hd, ha⟩, h1000, hm, q⟩ := h
  refine ⟨_, rfl, a, _, rfl, .inr (.inl (.inr ⟨o, ha⟩)), _, rfl, by rw [List.length_map]; omega, by rw [List.length_map]; omega, fun D hD => ?_⟩
  have en : (((ms.map V.int).length : Nat) : Int).toNat = ms.length := by rw [List.length_map]; omega
  rw [en]
  refine lc_map (walk_range (lo := 0) (n := ms.length)) (((List.range ms.length).map fun (s : Nat) => ((ms.idxOf (s : Int) : Nat) : Int)).map V.int) (by rw [List.length_map, List.length_map, List.length_range]) (two_le _ h1000) hD (fun _ _ => True.intro) (fun i x y H2 H3 R hi hy s2 hY q3 => ?_) (fun H2 s2 e => ?_)
  · obtain ⟨rfl, hx⟩ := hY
    have hx : x = .int (i : Nat) := hx.trans (congrArg V.int (Int.zero_add _))
    subst hx
    have ey : y = .int ((ms.idxOf (i : Int) : Nat) : Int) := by
      rw [List.getElem?_map, List.getElem?_map, List.getElem?_range hi] at hy
      exact (Option.some.inj hy).symm
    subst ey
    exact ⟨rfl, _, rfl, ⟨a, o, _, rfl, hd, s2 _ _ ha⟩, _, rfl, a, ms, i, rfl, rfl, ⟨o, hd, s2 _ _ ha⟩, hm i hi, q3 _ fun _ _ e => e⟩
  · refine ⟨D, _, rfl, SqL.of e, fun l o2 hl ho => ?_⟩
    exact q l _ (s2.trans (same_new hl)) ⟨o2, ho, upd_same⟩
theorem w_exchange_by {P : Program} {w : World} {K : PySem.W.Frag} {mg : Str → Option Value} {base : Heap} (T : TX K w mg) (D : Dn K mg "exchange_by" t_exchange_by) (c_turned_round : Cl P w K mg base 1 "turned_round" (s_turned_round P w K)) (c_traded : Cl P w K mg base 2 "traded" (s_traded P w K)) (c_spots_of : Cl P w K mg base 1 "spots_of" (s_spots_of P w K)) : Cl P w K mg base 3 "exchange_by" (s_exchange_by P w K) := by
  refine mk_cl D sc_exchange_by (fun _ _ _ _ _ _ us hl => match us, hl with | [_, _, _], _ => rfl) (fun vs H Q E h => by obtain ⟨_, _, _, rfl, _⟩ := h; rfl) (fun f cdv A outer s H vs Q E hr h => ?_)
  obtain ⟨v0, v1, v2, rfl, h⟩ := h
  refine ⟨_, (pss_one (ps_ret (pe_d c_turned_round hr (by decide) (by rfl) (pa_cons (pe_d c_traded hr (by decide) (by rfl) (pa_cons (pv 0) (pa_cons (pv 1) (pa_cons (pv 2) (pa_cons (pe_tupRg rfl (by rfl) T.tuple (prg_1 (by rfl) T.range (pe_d c_spots_of hr (by decide) (by rfl) (pa_cons (pv 0) pa_nil)))) pa_nil))))) pa_nil)))), ?_⟩
  obtain ⟨a, b, fl, st, r, rfl, rfl, rfl, hf, ok, hst, so, hl, q⟩ := h
  have h5 := ok.le
  refine ⟨_, rfl, _, rfl, _, rfl, _, rfl, _, rfl, a, fl, rfl, hf, _, rfl, RgOk.of_le (by decide) (by omega) (by decide) (by omega), fun t ht => ?_⟩
  have s1 : Same H (upd H t (.tup (rgV 0 (6 + (fl.length : Int))))) := same_new ht
  have e6 : (6 + (fl.length : Int)) = ((6 + fl.length : Nat) : Int) := by omega
  refine ⟨_, _, _, _, rfl, a, b, t, fl, st, r, ids (6 + fl.length), rfl, rfl, rfl, rfl, hf.same s1, ok, hst.same s1, so, hl, SqT.of (by rw [← rgV_ids, ← e6]; exact upd_same), ids_length _, fun p H2 s2 hp => ?_⟩
  have hlen : (trd fl st r (ids (6 + fl.length))).length = 6 + fl.length := by rw [trd_length, ids_length]
  refine ⟨_, rfl, p, _, rfl, hp, by omega, fun s hs => mem_trd so.ly hl (by omega), fun p2 H3 s3 hp2 => ?_⟩
  rw [hlen] at hp2
  exact q p2 _ (s1.trans (s2.trans s3)) hp2
theorem w_exchange {P : Program} {w : World} {K : PySem.W.Frag} {mg : Str → Option Value} {base : Heap} (T : TX K w mg) (D : Dn K mg "exchange" t_exchange) (c_need_rolls : Cl P w K mg base 7 "need_rolls" (s_need_rolls P w K)) (c_exchange_by : Cl P w K mg base 3 "exchange_by" (s_exchange_by P w K)) : Cl P w K mg base 8 "exchange" (s_exchange P w K) := by
  refine mk_cl D sc_exchange (fun _ _ _ _ _ _ us hl => match us, hl with | [_, _, _], _ => rfl) (fun vs H Q E h => by obtain ⟨_, _, _, rfl, _⟩ := h; rfl) (fun f cdv A outer s H vs Q E hr h => ?_)
  obtain ⟨v0, v1, v2, rfl, h⟩ := h
  refine ⟨_, (pss_cons (ps_expr (pe_d c_need_rolls hr (by decide) (by rfl) (pa_cons (pv 0) (pa_cons (pv 1) (pa_cons (pv 2) pa_nil)))))
      (pss_one (ps_ret (pe_d c_exchange_by hr (by decide) (by rfl) (pa_cons (pv 0) (pa_cons (pv 1) (pa_cons (pv 2) pa_nil))))))), ?_⟩
  obtain ⟨a, b, fl, st, r, rfl, rfl, rfl, hf, ok, hst, so, hl, hz, q⟩ := h
  refine ⟨_, rfl, _, rfl, _, rfl, _, _, _, rfl, a, b, fl, st, r, rfl, rfl, rfl, hf, ok, hst, so, hl, hz, fun H1 s1 => ?_⟩
  refine ⟨_, rfl, _, rfl, _, rfl, _, _, _, rfl, a, b, fl, st, r, rfl, rfl, rfl, hf.same s1, ok, hst.same s1, so, hl, fun p H2 s2 hp => ?_⟩
  exact q p _ (s1.trans s2) hp
theorem w_moved {P : Program} {w : World} {K : PySem.W.Frag} {mg : Str → Option Value} {base : Heap} (T : TX K w mg) (D : Dn K mg "moved" t_moved) (c_beside : Cl P w K mg base 1 "beside" (s_beside P w K)) (c_rolled : Cl P w K mg base 1 "rolled" (s_rolled P w K)) : Cl P w K mg base 2 "moved" (s_moved P w K) := by
  refine mk_cl D sc_moved (fun _ _ _ _ _ _ us hl => match us, hl with | [_, _, _], _ => rfl) (fun vs H Q E h => by obtain ⟨_, _, _, rfl, _⟩ := h; rfl) (fun f cdv A outer s H vs Q E hr h => ?_)
  obtain ⟨v0, v1, v2, rfl, h⟩ := h
  refine ⟨_, (pss_cons (ps_asg (pv 1) (pg_tup rfl (pgs_cons (pg_name (i := 3) sc_moved.nd rfl (.inl rfl)) (pgs_cons (pg_name (i := 4) sc_moved.nd rfl (.inl rfl)) (pgs_cons (pg_name (i := 5) sc_moved.nd rfl (.inl rfl)) pgs_nil)))))
      (pss_cons (ps_par (i := 3) (j := 4) rfl sc_moved.nd rfl rfl (by decide) rfl rfl (pa_cons (pe_d c_beside hr (by decide) (by rfl) (pa_cons (pv 3) (pa_cons (pv 2) pa_nil))) (pa_cons (pe_d c_rolled hr (by decide) (by rfl) (pa_cons (pv 4) (pa_cons (pv 2) pa_nil))) pa_nil)) (by rfl))
      (pss_cons (ps_if (pt_cmpR (op_notInFl (un9 hr)) (pv 3) (pv 0) (by rfl)) (pss_one (ps_ret pe_non)) pss_nil)
      (pss_cons (ps_set (i := 6) sc_moved.nd rfl (.inl rfl) (pe_op op_add (g_faces T (by rfl)) (pe_index (mt_indexFl (un9 hr)) (pv 0) (pa_cons (pv 3) pa_nil))))
      (pss_cons (ps_if (pt_cmpR op_in_seq (pv 5) (pe_tup (pa_cons (pv 6) (pa_cons (pe_ix ix_tup (pv 4) pe_int (fun _ _ => rfl)) pa_nil))) (by rfl)) (pss_one (ps_set (i := 5) sc_moved.nd rfl (.inl rfl) (pe_op op_sub (pe_op op_add (pv 6) (pe_ix ix_tup (pv 4) pe_int (fun _ _ => rfl))) (pv 5)))) pss_nil)
      (pss_one (ps_ret (pe_tup (pa_cons (pv 3) (pa_cons (pv 4) (pa_cons (pv 5) pa_nil))))))))))), ?_⟩
  obtain ⟨a, b, fl, p, l, rfl, rfl, rfl, hf, ⟨pc, pl, h0, hc, hy⟩, qn, qs⟩ := h
  refine ⟨_, rfl, b, _, rfl, SqT.of h0, rfl, _, _, rfl, _, _, rfl, _, _, rfl, rfl, ?_⟩
  refine ⟨_, rfl, _, rfl, _, _, rfl, pc, _, l, rfl, rfl, hc, fun p' H1 s1 hp' => ?_⟩
  refine ⟨_, rfl, _, rfl, _, _, rfl, pl, _, l, rfl, rfl, hy.same s1, fun u' H2 s2 hu' => ?_⟩
  have s12 := s1.trans s2
  refine ⟨_, _, rfl, ?_⟩
  refine ⟨_, rfl, _, rfl, p', a, _, fl, rfl, rfl, hp'.same s2, hf.same s12, _, rfl, ite2 (fun c => ?_) (fun c => ?_)⟩
  · have nm : ¬ bes p.1 l ∈ fl := by simpa using c
    exact qn (mv_neg nm) _ s12
  · have m1 : bes p.1 l ∈ fl := by simpa using c
    obtain ⟨o, as, ho, ha, hcs⟩ := hf.same s12
    refine ⟨_, rfl, ⟨a, o, _, rfl, ho, ha⟩, _, rfl, a, p', fl, _, rfl, rfl, hf.same s12, hp'.same s2, m1, 6, _, rfl, rfl, ?_⟩
    refine ⟨_, rfl, _, rfl, _, rfl, u', _, 0, _, rfl, rfl, SqT.of hu', rfl, two_le _ (by show 2 ≤ 1000; decide), fun t ht => ⟨t, _, rfl, .inr (SqT.of upd_same), rfl, rfl, _, rfl, ite2 (fun d => ?_) (fun d => ?_)⟩⟩
    · have hsw : p.2.2 = own fl (bes p.1 l) ∨ p.2.2 = (rol p.2.1 l).1 := by
        exact (inV2 _ _ _).mp d
      have s4 := s12.trans (same_new (o := .tup [.int (own fl (bes p.1 l)), .int (rol p.2.1 l).1]) ht)
      have s3 : Same H2 (upd H2 t (.tup [.int (own fl (bes p.1 l)), .int (rol p.2.1 l).1])) := same_new ht
      refine ⟨_, rfl, _, rfl, u', _, 0, _, rfl, rfl, SqT.of (s3 _ _ hu'), rfl, _, _, rfl, rfl, _, rfl, _, _, rfl, rfl, ?_⟩
      refine ⟨_, rfl, _, rfl, _, rfl, two_le _ (by show 3 ≤ 1000; decide), fun t2 ht2 => ?_⟩
      refine qs _ (mv_pos m1) t2 _ (s4.trans (same_new ht2)) ⟨p', u', ?_, ?_, ?_⟩
      · rw [upd_same]
        show some (HO.tup [V.ref p', V.ref u', V.int (own fl (bes p.1 l) + (rol p.2.1 l).1 - p.2.2)]) = some (.tup [.ref p', .ref u', .int (sw _ _ p.2.2)])
        rw [show sw (own fl (bes p.1 l)) (rol p.2.1 l).1 p.2.2 = own fl (bes p.1 l) + (rol p.2.1 l).1 - p.2.2 from if_pos hsw]
      · exact (same_new ht2) _ _ (s3 _ _ (hp'.same s2))
      · exact (same_new ht2) _ _ (s3 _ _ hu')
    · have hsw : ¬ (p.2.2 = own fl (bes p.1 l) ∨ p.2.2 = (rol p.2.1 l).1) := by
        exact fun z => d ((inV2 _ _ _).mpr z)
      have s4 := s12.trans (same_new (o := .tup [.int (own fl (bes p.1 l)), .int (rol p.2.1 l).1]) ht)
      have s3 : Same H2 (upd H2 t (.tup [.int (own fl (bes p.1 l)), .int (rol p.2.1 l).1])) := same_new ht
      refine ⟨_, rfl, _, rfl, _, rfl, two_le _ (by show 3 ≤ 1000; decide), fun t2 ht2 => ?_⟩
      refine qs _ (mv_pos m1) t2 _ (s4.trans (same_new ht2)) ⟨p', u', ?_, ?_, ?_⟩
      · rw [upd_same]
        show some (HO.tup [V.ref p', V.ref u', V.int p.2.2]) = some (.tup [.ref p', .ref u', .int (sw _ _ p.2.2)])
        rw [show sw (own fl (bes p.1 l)) (rol p.2.1 l).1 p.2.2 = p.2.2 from if_neg hsw]
      · exact (same_new ht2) _ _ (s3 _ _ (hp'.same s2))
      · exact (same_new ht2) _ _ (s3 _ _ hu')
end TM
end
/-! ## TW5 -/
section
namespace TM
open PySem PySem.Spec PyProof.Rows L2
theorem pat {β : Type} {R : Addr → β → Prop} : ∀ {as : List Addr} {bs : List β}, Paired R as bs → ∀ {i : Nat} {v : V}, (as.map V.ref)[i]? = some v → ∃ b c, v = .ref b ∧ bs[i]? = some c ∧ R b c
  | _, _, .nil, i, v, h => by simp at h
  | _, _, .cons (a := a) (b := b) r t, 0, v, h => ⟨a, b, by simpa using h.symm, rfl, r⟩
  | _, _, .cons r t, i + 1, v, h => pat t (i := i) (by simpa using h)
theorem pd_dp {K : PySem.W.Frag} {H : Hp} {a : Addr} {p : Pl} (h : PlAt H a p) : Dp K H (.ref a) (pD p) := by
  obtain ⟨c, l, h0, h1, h2⟩ := h
  exact .tup (SqT.of h0) (.cons (.tup (SqT.of h1) (.cons (.int _) (.cons (.int _) .nil))) (.cons (.tup (SqT.of h2) (.cons (.int _) (.cons (.int _) (.cons (.int _) .nil)))) (.cons (.int _) .nil)))
theorem pds_dp {K : PySem.W.Frag} {H : Hp} {as : List Addr} {ps : List Pl} (h : Paired (PlAt H) as ps) : DpAll K H (as.map V.ref) (ps.map pD) := by
  induction h with
  | nil => exact .nil
  | cons r t ih => exact .cons (pd_dp r) ih
theorem pDs_lay : ∀ ps : List Pl, PyData.canLayAll0 (ps.map pD) = true
  | [] => by simp [PyData.canLayAll0]
  | c :: cs => by simp [PyData.canLayAll0, PyData.canLay0, pD, cD, pDs_lay cs]
theorem pDs_depth : ∀ ps : List Pl, PyData.depthAll (ps.map pD) ≤ 2
  | [] => by simp [PyData.depthAll]
  | c :: cs => by
    have h1 := pDs_depth cs
    have h2 := pD_depth c
    simp only [List.map_cons, PyData.depthAll]
    omega
theorem shaped_list {ds : List PyData} (h1 : PyData.canLayAll0 ds = true) (h2 : PyData.depthAll ds ≤ 60) : SeqAt.shaped (.list ds) = true := by
  unfold SeqAt.shaped
  rw [Bool.and_eq_true_iff]
  refine ⟨by simpa only [PyData.canLay0] using h1, decide_eq_true ?_⟩
  simp only [PyData.depth]
  omega
theorem shaped_tuple {ds : List PyData} (h1 : PyData.canLayAll0 ds = true) (h2 : PyData.depthAll ds ≤ 60) : SeqAt.shaped (.tuple ds) = true := by
  unfold SeqAt.shaped
  rw [Bool.and_eq_true_iff]
  refine ⟨by simpa only [PyData.canLay0] using h1, decide_eq_true ?_⟩
  simp only [PyData.depth]
  omega
theorem eqv_nil (ds : List PyData) : PyData.eqv (.list ds) (.list []) = decide (ds = []) := by
  cases ds with
  | nil => simp [PyData.eqv, PyData.eqvAll]
  | cons d ds => simp [PyData.eqv, PyData.eqvAll]
/-- xs != [], xs == [] -/
theorem ne_nil {K : PySem.W.Frag} {H : Hp} {a b : Addr} {xs : List V} {ds : List PyData} {Q : VK} (h1 : SqL K H a xs) (h2 : DpAll K H xs ds) (h3 : PyData.canLayAll0 ds = true) (h4 : PyData.depthAll ds ≤ 60) (hb : H b = some (.lst [])) (q : Q (.bl (!decide (ds = []))) H) : rNeD K (.ref a) (.ref b) H Q :=
  ⟨.list ds, .list [], .lst h1 h2, .lst (SqL.of hb) .nil, shaped_list h3 h4, shaped_list (by simp [PyData.canLayAll0]) (by simp [PyData.depthAll]), by rw [eqv_nil]; exact q⟩
theorem eq_nil {K : PySem.W.Frag} {H : Hp} {a b : Addr} {xs : List V} {ds : List PyData} {Q : VK} (h1 : SqL K H a xs) (h2 : DpAll K H xs ds) (h3 : PyData.canLayAll0 ds = true) (h4 : PyData.depthAll ds ≤ 60) (hb : H b = some (.lst [])) (q : Q (.bl (decide (ds = []))) H) : rEqD K (.ref a) (.ref b) H Q :=
  ⟨.list ds, .list [], .lst h1 h2, .lst (SqL.of hb) .nil, shaped_list h3 h4, shaped_list (by simp [PyData.canLayAll0]) (by simp [PyData.depthAll]), by rw [eqv_nil]; exact q⟩

/-! ### the search's state -/
def Mt (xs : List Ent) (F : Fd) : Prop := xs.map (fun e => (e.1, e.2.2)) = F.map fun f => (f.1, V.str (rowS f.2))
theorem Mt.keys {xs : List Ent} {F : Fd} (h : Mt xs F) : xs.map (·.1) = kys F := by
  have e := congrArg (List.map (·.1)) h
  rw [List.map_map, List.map_map] at e
  exact e
theorem Mt.len {xs : List Ent} {F : Fd} (h : Mt xs F) : xs.length = F.length := by
  have e := congrArg List.length h
  rwa [List.length_map, List.length_map] at e
theorem Mt.get {xs : List Ent} {F : Fd} (h : Mt xs F) {i : Nat} {x : Ent} (hx : xs[i]? = some x) : ∃ r, F[i]? = some (x.1, r) ∧ x.2.2 = .str (rowS r) := by
  have e : (xs.map (fun e => (e.1, e.2.2)))[i]? = (F.map fun f => (f.1, V.str (rowS f.2)))[i]? := by rw [h]
  rw [List.getElem?_map, List.getElem?_map, hx] at e
  cases hF : F[i]? with
  | none => rw [hF] at e; cases e
  | some f =>
    rw [hF] at e
    obtain ⟨f1, f2⟩ := f
    have e' := Option.some.inj e
    have e1 : x.1 = f1 := congrArg (·.1) e'
    have e2 : x.2.2 = V.str (rowS f2) := congrArg (·.2) e'
    exact ⟨f2, by rw [e1], e2⟩
theorem Mt.look {xs : List Ent} {F : Fd} (h : Mt xs F) (nd : (kys F).Nodup) {p : Pl} (hp : p ∈ kys F) : ∃ r, (p, r) ∈ F ∧ lookE xs p = some (.str (rowS r)) := by
  rw [← h.keys] at hp nd
  obtain ⟨x, hx, e⟩ := List.mem_map.mp hp
  obtain ⟨i, hi⟩ := List.getElem?_of_mem hx
  obtain ⟨r, h1, h2⟩ := h.get hi
  obtain ⟨x1, x2, x3⟩ := x
  have e : x1 = p := e
  subst e
  have h2 : x3 = .str (rowS r) := h2
  subst h2
  exact ⟨r, List.mem_of_getElem? h1, look_some nd hx⟩
theorem Mt.snoc {xs : List Ent} {F : Fd} (h : Mt xs F) (q : Pl) (b : Addr) (r : List Lt) : Mt (xs ++ [(q, b, .str (rowS r))]) (F ++ [(q, r)]) := by
  unfold Mt
  rw [List.map_append, List.map_append, h]
  rfl
structure SpH (P : Program) (w : World) (H0 H : Hp) (d q wl : Addr) (xs : List Ent) (F : Fd) (as : List Addr) (W : List Pl) (bs : List Addr) (L : List Pl) : Prop where
  hs : Same H0 H
  hd : H d = some (PD P w d xs)
  hm : Mt xs F
  hk : PKeys H xs
  hl : H q = some (.lst (bs.map V.ref))
  hlp : Paired (PlAt H) bs L
  hw : H wl = some (.lst (as.map V.ref))
  hwp : Paired (PlAt H) as W
  hne : q ≠ wl
  hd0 : H0 d = none
  hq0 : H0 q = none
theorem SpH.go {P : Program} {w : World} {H0 H H' : Hp} {d q wl : Addr} {xs : List Ent} {F : Fd} {as : List Addr} {W : List Pl} {bs : List Addr} {L : List Pl} (h : SpH P w H0 H d q wl xs F as W bs L) (s : Same H H') : SpH P w H0 H' d q wl xs F as W bs L :=
  ⟨h.hs.trans s, s _ _ h.hd, h.hm, h.hk.mono (same_tup s), s _ _ h.hl, Paired.mapP h.hlp fun _ _ e => e.same s, s _ _ h.hw, Paired.mapP h.hwp fun _ _ e => e.same s, h.hne, h.hd0, h.hq0⟩
def s_spread (P : Program) (w : World) (K : PySem.W.Frag) : Sp := sp2 fun x y H Q => ∃ a b fl p0, x = .ref a ∧ y = .ref b ∧ FlAt H a fl ∧ FlOk fl ∧ PlAt H b p0 ∧ VP fl p0 ∧
  ∀ d H' xs F, Same H H' → H d = none → H' d = some (PD P w d xs) → Mt xs F → PKeys H' xs → InW fl p0 F [] → Q (.ref d) H'
theorem paired_len {β : Type} {R : Addr → β → Prop} {as : List Addr} {bs : List β} (h : Paired R as bs) : as.length = bs.length := Paired.length h
theorem paired_snoc {β : Type} {R : Addr → β → Prop} {as : List Addr} {bs : List β} {a : Addr} {b : β} (h : Paired R as bs) (r : R a b) : Paired R (as ++ [a]) (bs ++ [b]) := by
  induction h with
  | nil => exact .cons r .nil
  | cons r1 t ih => exact .cons r1 ih
theorem drop_at {α : Type} {l : List α} {i : Nat} {x : α} (h : l[i]? = some x) : l.drop i = x :: l.drop (i + 1) := by
  obtain ⟨hi, e⟩ := List.getElem?_eq_some_iff.mp h
  rw [← e]
  exact List.drop_eq_getElem_cons hi
theorem take_at {α : Type} {l : List α} {i : Nat} {x : α} (h : l[i]? = some x) : l.take (i + 1) = l.take i ++ [x] := by
  rw [List.take_succ, h]
  rfl
set_option maxHeartbeats 1000000 in
theorem w_spread {P : Program} {w : World} {K : PySem.W.Frag} {mg : Str → Option Value} {base : Heap} (T : TX K w mg) (D : Dn K mg "spread" t_spread) (c_moved : Cl P w K mg base 2 "moved" (s_moved P w K)) : Cl P w K mg base 3 "spread" (s_spread P w K) := by
  refine mk_cl D sc_spread (fun _ _ _ _ _ _ us hl => match us, hl with | [_, _], _ => rfl) (fun vs H Q E h => by obtain ⟨_, _, rfl, _⟩ := h; rfl) (fun f cdv A outer s H vs Q E hr h => ?_)
  obtain ⟨v0, v1, rfl, h⟩ := h
  refine ⟨_, (pss_cons (ps_par (i := 2) (j := 3) rfl sc_spread.nd rfl rfl (by decide) rfl rfl (pa_cons (pe_pdisp (un9 hr) (pv 1) pe_str) (pa_cons (pe_lst (pa_cons (pv 1) pa_nil)) pa_nil)) (by rfl))
      (pss_cons (ps_while PassesOwn.never (pt_cmpR (op_neD hr.units) (pv 3) (pe_lst pa_nil) (nomark _)) (pss_cons (ps_set (i := 4) sc_spread.nd rfl (.inl rfl) (pe_lst pa_nil))
      (pss_cons (ps_for PassesOwn.never rfl (pi_list (pv 3)) (pg_name (i := 5) sc_spread.nd rfl (.inl rfl)) (pss_one (ps_for PassesOwn.never rfl (pi_str (g_lets T (by rfl))) (pg_name (i := 6) sc_spread.nd rfl (.inl rfl)) (pss_cons (ps_set (i := 7) sc_spread.nd rfl (.inl rfl) (pe_d c_moved hr (by decide) (by rfl) (pa_cons (pv 0) (pa_cons (pv 5) (pa_cons (pv 6) pa_nil)))))
      (pss_one (ps_if ((pw_and (pt_cmpR op_notN (pv 7) pe_non (nomark _)) (pw_and1 (pt_cmpR (op_pNotIn (un9 hr)) (pv 7) (pv 2) (by rfl))))).pt (pss_cons (ps_asg (pe_op op_add_str (pe_ix (ix_pd (un9 hr)) (pv 2) (pv 5) (fun _ _ => rfl)) (pv 6)) (pg_sub (pv 2) (pv 7) (set_pd (un9 hr))))
      (pss_one (ps_expr (pe_bm PySem.F.plainAttrs_list PySem.F.slot_list_append PySem.F.type_list_append mt_append (pv 4) (pa_cons (pv 7) pa_nil))))) pss_nil))))))
      (pss_one (ps_set (i := 3) sc_spread.nd rfl (.inl rfl) (pv 4))))))
      (pss_one (ps_ret (pv 2))))), ?_⟩
  obtain ⟨a, b, fl, p0, rfl, rfl, hf, ok, hb, vp, q⟩ := h
  refine fun d hd => ⟨_, rfl, b, p0, rfl, hb.same (same_new hd), upd_same, _, rfl, two_le _ (by show 1 ≤ 1000; decide), fun wl hwl => ⟨_, _, rfl, ?_⟩⟩
  have s0 : Same H (upd (upd (upd H d (PD P w d [])) d (PD P w d [(p0, b, .str "")])) wl (.lst [.ref b])) := same_upd (same_upd (same_new hd) hd) (by
    have : wl ≠ d := fun z => by rw [z, upd_same] at hwl; cases hwl
    rw [upd_ne this, upd_ne this] at hwl
    exact hwl)
  have hdw : d ≠ wl := fun z => by rw [z, upd_same] at hwl; cases hwl
  refine ⟨fun m σ H1 => ∃ xs F wl as W v4 v5 v6 v7, σ = [some (.ref a), some (.ref b), some (.ref d), some (.ref wl), v4, v5, v6, v7] ∧ Same H H1 ∧ H1 d = some (PD P w d xs) ∧ Mt xs F ∧ PKeys H1 xs ∧ H1 wl = some (.lst (as.map V.ref)) ∧ Paired (PlAt H1) as W ∧ InW fl p0 F W ∧
      m = 2 * (1440 - F.length) + (if W = [] then 0 else 1), ⟨_, [(p0, b, .str "")], [(p0, [])], wl, [b], [p0], _, _, _, _, rfl, s0, ?_, ?_, ?_, upd_same, .cons (hb.same s0) .nil, InW.start fl p0, rfl⟩, ?_⟩
  · rw [upd_ne hdw]
    exact upd_same
  · show [(p0, V.str "")] = [(p0, V.str (rowS []))]
    rw [rowS_nil]
  · intro x hx
    have : x = (p0, b, .str "") := by simpa using hx
    rw [this]
    exact hb.same s0
  rintro m σ H1 ⟨xs, F, wl, as, W, v4, v5, v6, v7, rfl, s1, hd1, mt, hk, hw, hwp, inw, rfl⟩
  have hFle := inw.bf.le vp ok.le
  refine ⟨_, rfl, two_le _ (by show 0 ≤ 1000; decide), fun e he => ?_⟩
  have se : Same H1 (upd H1 e (.lst [])) := same_new he
  refine ne_nil (ds := W.map pD) (SqL.of (se _ _ hw)) (pds_dp (Paired.mapP hwp fun _ _ z => z.same se)) (pDs_lay W) (Nat.le_trans (pDs_depth W) (by decide)) upd_same ⟨_, rfl, ite2 (fun c => ?_) (fun c => ?_)⟩
  · have hW : W ≠ [] := fun z => by
      rw [z] at c
      exact absurd c (by decide)
    refine ⟨fun σ' H' => ∃ m', m' < 2 * (1440 - F.length) + (if W = [] then 0 else 1) ∧ _, fun _ _ z => z, ?_⟩
    rw [if_neg hW]
    refine ⟨two_le _ (by show 0 ≤ 1000; decide), fun lq hlq => ?_⟩
    have sq : Same (upd H1 e (.lst [])) (upd (upd H1 e (.lst [])) lq (.lst [])) := same_new hlq
    have se2 := se.trans sq
    have hlw : lq ≠ wl := fun z => by rw [z, se _ _ hw] at hlq; cases hlq
    have hlq0 : H lq = none := (s1.trans se).free hlq
    have start : SpH P w H (upd (upd H1 e (.lst [])) lq (.lst [])) d lq wl xs F as W [] [] :=
      ⟨s1.trans se2, se2 _ _ hd1, mt, hk.mono (same_tup se2), upd_same, .nil, se2 _ _ hw, Paired.mapP hwp fun _ _ z => z.same se2, hlw, hd, hlq0⟩
    refine ⟨_, rfl, wl, rfl, ⟨_, SqL.of (se2 _ _ hw)⟩, ?_⟩
    refine for_it (walk_list (xs := as.map V.ref)) (fun i σ H2 => ∃ xs F2 bs L v5 v6 v7, σ = [some (.ref a), some (.ref b), some (.ref d), some (.ref wl), some (.ref lq), v5, v6, v7] ∧ SpH P w H H2 d lq wl xs F2 as W bs L ∧ InI fl p0 F.length F2 L (W.drop i))
      ⟨xs, F, [], [], _, _, _, rfl, start, inw.inI⟩ (fun i σ H2 _ h => by
        obtain ⟨_, _, _, _, _, _, _, _, h, _⟩ := h
        exact SqL.of h.hw) (fun i x σ H2 H3 hi hP hY => ?_) (fun σ H2 hP => ?_)
    · obtain ⟨rfl, hx⟩ := hY
      obtain ⟨xs2, F2, bs, L, v5, v6, v7, rfl, hS, hI⟩ := hP
      obtain ⟨o1, one, rfl, hone, ho⟩ := pat hS.hwp hx
      rw [drop_at hone] at hI
      refine ⟨_, (congrArg V.str rowS_lts.symm : V.str "ensw" = V.str (rowS lts)), ?_⟩
      refine for_it (walk_str (z := rowS lts)) (fun j σ H4 => ∃ xs F2 bs L v6 v7, σ = [some (.ref a), some (.ref b), some (.ref d), some (.ref wl), some (.ref lq), some (.ref o1), v6, v7] ∧ SpH P w H H4 d lq wl xs F2 as W bs L ∧ PlAt H4 o1 one ∧ InL fl p0 F.length F2 L one (lts.take j) (W.drop (i + 1)))
        ⟨xs2, F2, bs, L, _, _, rfl, hS, ho, hI.enter⟩ (fun _ _ _ _ _ => True.intro) (fun j y σ H4 H5 hj hP2 hY2 => ?_) (fun σ H4 hP2 => ?_)
      · obtain ⟨rfl, sg, hsg, rfl⟩ := hY2
        obtain ⟨xs3, F3, bs3, L3, v6, v7, rfl, hS3, ho3, hL3⟩ := hP2
        obtain ⟨l, h1, h2⟩ := row_sign hsg
        rw [h2]
        refine ⟨_, rfl, _, rfl, _, rfl, _, _, _, rfl, a, o1, fl, one, l, rfl, rfl, rfl, hf.same hS3.hs, ho3, fun hn H6 s6 => ?_, fun other hmv t H6 s6 ht => ?_⟩
        · refine ⟨_, rfl, rfl, _, rfl, ?_⟩
          refine ⟨xs3, F3, bs3, L3, _, _, rfl, hS3.go s6, ho3.same s6, ?_⟩
          rw [take_at h1]
          exact hL3.none hn
        · have hS4 := hS3.go s6
          refine ⟨_, rfl, rfl, _, rfl, ?_⟩
          rw [decide_eq_false (fun z => nomatch z : ¬ V.ref t = V.non)]
          refine ⟨_, rfl, _, rfl, t, d, xs3, other, rfl, rfl, .inl hS4.hd, hS4.hk, ht, _, rfl, ite2 (fun c2 => ?_) (fun c2 => ?_)⟩
          · have hnk : other ∉ xs3.map (·.1) := by simpa using c2
            obtain ⟨r, hr1, hr2⟩ := hS4.hm.look hL3.bf.nd hL3.sub1
            have hF3 := hL3.bf.le vp ok.le
            have hrl := (hL3.bf.ok _ hr1).2
            have hrl : r.length < F3.length := hrl
            have hx3 := hS4.hm.len
            have hL3l : L3.length ≤ F3.length := by rw [hL3.len]; omega
            have hbl := paired_len hS4.hlp
            refine ⟨_, rfl, _, rfl, d, o1, xs3, one, _, rfl, rfl, .inl hS4.hd, hS4.hk, ho3.same s6, hr2, _, rfl, rowS r, ltS l, rfl, rfl, ?_, ?_⟩
            · rw [rowS_length]
              have : (ltS l).length = 1 := rfl
              rw [this, sizeLine_eq]
              omega
            rw [rowS_snoc]
            refine ⟨_, rfl, _, rfl, d, t, xs3, other, rfl, rfl, hS4.hd, hS4.hk, ht, hnk, (by rw [sizeLine_eq]; omega), ?_⟩
            have hdq : lq ≠ d := fun z => by
              have a1 := hS4.hl
              rw [z, hS4.hd] at a1
              cases a1
            have hdw2 : wl ≠ d := fun z => by
              have a1 := hS4.hw
              rw [z, hS4.hd] at a1
              cases a1
            have hq7 : upd H6 d (PD P w d (xs3 ++ [(other, t, .str (rowS (r ++ [l])))])) lq = some (.lst (bs3.map V.ref)) := by
              rw [upd_ne hdq]
              exact hS4.hl
            refine ⟨_, rfl, .inl ⟨rfl, _, .inl (.inl hq7)⟩, _, rfl, lq, _, _, rfl, rfl, hq7, (by rw [List.length_map, sizeLine_eq]; omega), ?_⟩
            have t8 : TupS H6 (upd (upd H6 d (PD P w d (xs3 ++ [(other, t, .str (rowS (r ++ [l])))]))) lq (.lst (bs3.map V.ref ++ [.ref t]))) :=
              (TupS.upd fun ys e => by rw [hS4.hd] at e; cases e).trans (TupS.upd fun ys e => by rw [hq7] at e; cases e)
            refine ⟨xs3 ++ [(other, t, .str (rowS (r ++ [l])))], F3 ++ [(other, r ++ [l])], bs3 ++ [t], L3 ++ [other], _, _, rfl, ⟨same_upd (same_upd hS4.hs hS4.hd0) hS4.hq0, ?_, hS4.hm.snoc other t _, ?_, ?_, ?_, ?_, ?_, hS4.hne, hS4.hd0, hS4.hq0⟩, (ho3.same s6).mono t8, ?_⟩
            · rw [upd_ne (Ne.symm hdq), upd_same]
              rfl
            · intro x hx
              rcases List.mem_append.mp hx with z | z
              · exact (hS4.hk x z).mono t8
              · have z' : x = (other, t, .str (rowS (r ++ [l]))) := by simpa using z
                rw [z']
                exact ht.mono t8
            · rw [upd_same, List.map_append]
              rfl
            · exact paired_snoc (Paired.mapP hS4.hlp fun _ _ e => e.mono t8) (ht.mono t8)
            · rw [upd_ne (Ne.symm hS4.hne), upd_ne hdw2]
              exact hS4.hw
            · exact Paired.mapP hS4.hwp fun _ _ e => e.mono t8
            · rw [take_at h1]
              refine hL3.new hmv ?_ hr1
              rw [← hS4.hm.keys]
              exact hnk
          · have hik : other ∈ xs3.map (·.1) := by simpa using c2
            refine ⟨xs3, F3, bs3, L3, _, _, rfl, hS4, ho3.same s6, ?_⟩
            rw [take_at h1]
            refine hL3.old hmv ?_
            rw [← hS4.hm.keys]
            exact hik
      · obtain ⟨xs3, F3, bs3, L3, v6, v7, rfl, hS3, ho3, hL3⟩ := hP2
        rw [rowS_size, List.take_length] at hL3
        exact ⟨xs3, F3, bs3, L3, _, _, _, rfl, hS3, hL3.out⟩
    · obtain ⟨xs2, F2, bs, L, v5, v6, v7, rfl, hS, hI⟩ := hP
      rw [List.drop_eq_nil_of_le (by rw [List.length_map, paired_len hwp]; exact Nat.le_refl _)] at hI
      have hl2 := hI.len
      have hF2 := hI.bf.le vp ok.le
      refine ⟨_, rfl, _, ?_, xs2, F2, lq, bs, L, _, _, _, _, rfl, hS.hs, hS.hd, hS.hm, hS.hk, hS.hl, hS.hlp, hI.out, rfl⟩
      by_cases hL : L = []
      · rw [if_pos hL]
        subst hL
        rw [List.length_nil] at hl2
        omega
      · rw [if_neg hL]
        have : 0 < L.length := List.length_pos_iff.mpr hL
        omega
  · have hW : W = [] := by
      cases W with
      | nil => rfl
      | cons z zs => exact absurd (by simp) c
    subst hW
    exact ⟨_, rfl, q d _ xs F (s1.trans se) hd (se _ _ hd1) mt (hk.mono (same_tup se)) inw⟩
end TM
end
/-! ## TW6 -/
section
namespace TM
open PySem PySem.Spec PyProof.Rows L2
def InS (fl : List Cell) (s : Int) : Prop := 0 ≤ s ∧ s < 6 + (fl.length : Int)
theorem vp_of {fl : List Cell} {st : Cell × Ly} {s : Int} (so : StOk fl st) (h : InS fl s) : VP fl (st.1, st.2, s) := ⟨so.cell, so.ly, by have := h.1; show -1 ≤ s; omega, by have := h.2; show s < 6 + (fl.length : Nat); omega⟩
theorem mvs_split {fl : List Cell} : ∀ {r : List Lt} {p q : Pl} {i : Nat} {l : Lt}, mvs fl p r = some q → r[i]? = some l → ∃ x y, mvs fl p (r.take i) = some x ∧ mv fl x l = some y ∧ mvs fl p (r.take (i + 1)) = some y
  | [], _, _, _, _, _, h => by simp at h
  | a :: r, p, q, 0, l, h, hl => by
    have e : a = l := by simpa using hl
    subst e
    cases hm : mv fl p a with
    | none => simp only [mvs, hm] at h; cases h
    | some y => exact ⟨p, y, rfl, hm, by simp only [List.take, mvs, hm]⟩
  | a :: r, p, q, i + 1, l, h, hl => by
    cases hm : mv fl p a with
    | none => simp only [mvs, hm] at h; cases h
    | some z =>
      simp only [mvs, hm] at h
      obtain ⟨x, y, h1, h2, h3⟩ := mvs_split (i := i) h (by simpa using hl)
      exact ⟨x, y, by simp only [List.take, mvs, hm]; exact h1, h2, by rw [List.take_succ_cons]; simp only [mvs, hm]; exact h3⟩
def s_need_spot (P : Program) (w : World) (K : PySem.W.Frag) : Sp := sp2 fun x y H Q => ∃ a fl s, x = .ref a ∧ y = .int s ∧ FlAt H a fl ∧ InS fl s ∧ ∀ H', Same H H' → Q .non H'
def s_need_wish (P : Program) (w : World) (K : PySem.W.Frag) : Sp := sp4 fun x y z t H Q => ∃ a b fl st s u, x = .ref a ∧ y = .ref b ∧ z = .int s ∧ t = .int u ∧ FlAt H a fl ∧ FlOk fl ∧ StAt H b st ∧ StOk fl st ∧ InS fl s ∧ InS fl u ∧ ∀ H', Same H H' → Q .non H'
def BrP (H : Hp) (fl : List Cell) (st : Cell × Ly) (s u : Int) (Q : VK) : Prop := (∀ p v H', Same H H' → H' p = some (.tup [.str "never", v]) → Q (.ref p) H') ∧
  (∀ p r H', Same H H' → H' p = some (.tup [.str "row", .str (rowS r)]) → (∃ q, mvs fl (st.1, st.2, s) r = some q ∧ q.2.2 = u) → r.length ≤ 1440 → Q (.ref p) H')
def s_bring_by (P : Program) (w : World) (K : PySem.W.Frag) : Sp := sp4 fun x y z t H Q => ∃ a b fl st s u, x = .ref a ∧ y = .ref b ∧ z = .int s ∧ t = .int u ∧ FlAt H a fl ∧ FlOk fl ∧ StAt H b st ∧ StOk fl st ∧ InS fl s ∧ InS fl u ∧ BrP H fl st s u Q
def s_bring (P : Program) (w : World) (K : PySem.W.Frag) : Sp := sp4 fun x y z t H Q => ∃ a b fl st s u, x = .ref a ∧ y = .ref b ∧ z = .int s ∧ t = .int u ∧ FlAt H a fl ∧ FlOk fl ∧ StAt H b st ∧ StOk fl st ∧ InS fl s ∧ InS fl u ∧ BrP H fl st s u Q
def s_does_bring (P : Program) (w : World) (K : PySem.W.Frag) : Sp := sp5 fun x y z t v H Q => ∃ a b fl st s u r q, x = .ref a ∧ y = .ref b ∧ z = .int s ∧ t = .int u ∧ v = .str (rowS r) ∧ FlAt H a fl ∧ FlOk fl ∧ StAt H b st ∧ StOk fl st ∧ r.length ≤ 10000 ∧ mvs fl (st.1, st.2, s) r = some q ∧ q.2.2 = u ∧ ∀ H', Same H H' → Q (.bl true) H'
def s_shows_bring (P : Program) (w : World) (K : PySem.W.Frag) : Sp := sp5 fun x y z t v H Q => ∃ a b g fl st s u r q, x = .ref a ∧ y = .ref b ∧ z = .int s ∧ t = .int u ∧ v = .ref g ∧ H g = some (.tup [.str "row", .str (rowS r)]) ∧ FlAt H a fl ∧ FlOk fl ∧ StAt H b st ∧ StOk fl st ∧ InS fl s ∧ InS fl u ∧ r.length ≤ 10000 ∧ mvs fl (st.1, st.2, s) r = some q ∧ q.2.2 = u ∧
  ∀ H', Same H H' → Q (.bl true) H'
theorem w_need_spot {P : Program} {w : World} {K : PySem.W.Frag} {mg : Str → Option Value} {base : Heap} (T : TX K w mg) (D : Dn K mg "need_spot" t_need_spot) (c_is_among : Cl P w K mg base 2 "is_among" (s_is_among P w K)) (c_spots_of : Cl P w K mg base 1 "spots_of" (s_spots_of P w K)) : Cl P w K mg base 3 "need_spot" (s_need_spot P w K) := by
  refine mk_cl D sc_need_spot (fun _ _ _ _ _ _ us hl => match us, hl with | [_, _], _ => rfl) (fun vs H Q E h => by obtain ⟨_, _, rfl, _⟩ := h; rfl) (fun f cdv A outer s H vs Q E hr h => ?_)
  obtain ⟨v0, v1, rfl, h⟩ := h
  refine ⟨_, (pss_one (ps_if (pt_not (pt_val (pe_d c_is_among hr (by decide) (by rfl) (pa_cons (pv 1) (pa_cons pe_int (pa_cons (pe_op op_sub (pe_d c_spots_of hr (by decide) (by rfl) (pa_cons (pv 0) pa_nil)) pe_int) pa_nil)))))) (pss_one ps_never) pss_nil)), ?_⟩
  obtain ⟨a, fl, s, rfl, rfl, hf, hs, q⟩ := h
  refine ⟨_, rfl, _, rfl, _, rfl, a, fl, rfl, hf, _, 1, rfl, rfl, _, _, _, rfl, s, 0, _, rfl, rfl, rfl, hs.1, (by have := hs.2; omega), true, rfl, ?_⟩
  exact q _ (Same.refl H)
theorem w_need_wish {P : Program} {w : World} {K : PySem.W.Frag} {mg : Str → Option Value} {base : Heap} (T : TX K w mg) (D : Dn K mg "need_wish" t_need_wish) (c_need_stand : Cl P w K mg base 6 "need_stand" (s_need_stand P w K)) (c_need_spot : Cl P w K mg base 3 "need_spot" (s_need_spot P w K)) : Cl P w K mg base 7 "need_wish" (s_need_wish P w K) := by
  refine mk_cl D sc_need_wish (fun _ _ _ _ _ _ us hl => match us, hl with | [_, _, _, _], _ => rfl) (fun vs H Q E h => by obtain ⟨_, _, _, _, rfl, _⟩ := h; rfl) (fun f cdv A outer s H vs Q E hr h => ?_)
  obtain ⟨v0, v1, v2, v3, rfl, h⟩ := h
  refine ⟨_, (pss_cons (ps_expr (pe_d c_need_stand hr (by decide) (by rfl) (pa_cons (pv 0) (pa_cons (pv 1) pa_nil))))
      (pss_cons (ps_expr (pe_d c_need_spot hr (by decide) (by rfl) (pa_cons (pv 0) (pa_cons (pv 2) pa_nil))))
      (pss_one (ps_expr (pe_d c_need_spot hr (by decide) (by rfl) (pa_cons (pv 0) (pa_cons (pv 3) pa_nil))))))), ?_⟩
  obtain ⟨a, b, fl, st, s, u, rfl, rfl, rfl, rfl, hf, ok, hst, so, h1, h2, q⟩ := h
  refine ⟨_, rfl, _, rfl, _, _, rfl, a, b, fl, st, rfl, rfl, hf, ok, hst, so, fun H1 s1 => ?_⟩
  refine ⟨_, rfl, _, rfl, _, _, rfl, a, fl, s, rfl, rfl, hf.same s1, h1, fun H2 s2 => ?_⟩
  have s12 := s1.trans s2
  refine ⟨_, rfl, _, rfl, _, _, rfl, a, fl, u, rfl, rfl, hf.same s12, h2, fun H3 s3 => ?_⟩
  exact q _ (s12.trans s3)
theorem paired_mapR {α β γ : Type} {R : α → γ → Prop} {f : β → γ} {as : List α} {bs : List β} (h : Paired (fun a b => R a (f b)) as bs) : Paired R as (bs.map f) := by
  induction h with
  | nil => exact .nil
  | cons r t ih => exact .cons r ih
theorem paired_mem {α β : Type} {R : α → β → Prop} {as : List α} {bs : List β} (h : Paired R as bs) {a : α} (ha : a ∈ as) : ∃ b ∈ bs, R a b := by
  induction h with
  | nil => exact nomatch ha
  | @cons a b _ _ r t ih =>
    rcases List.mem_cons.mp ha with e | ha
    · exact ⟨b, List.mem_cons_self, e ▸ r⟩
    · obtain ⟨b, h1, h2⟩ := ih ha
      exact ⟨b, List.mem_cons_of_mem _ h1, h2⟩
theorem str_ok {r : List Lt} (h : r.length ≤ 10000) : PyData.strOk (rowS r) = true := by
  have e : PyData.strOk (rowS r) = (r.map ltN).toArray.all (· < 0x110000) := rfl
  rw [e, List.all_toArray, List.all_map, List.all_eq_true]
  intro l _
  cases l <;> decide
theorem prDs_lay : ∀ ps : List (Int × Str), (∀ p ∈ ps, PyData.strOk p.2 = true) → PyData.canLayAll0 (ps.map prD) = true
  | [], _ => by simp [PyData.canLayAll0]
  | c :: cs, h => by simp [PyData.canLayAll0, PyData.canLay0, prD, h c List.mem_cons_self, prDs_lay cs fun p hp => h p (List.mem_cons_of_mem _ hp)]
def prOf (r : List Lt) : Int × Str := (((rowS r).length : Nat), rowS r)
theorem w_bring_by {P : Program} {w : World} {K : PySem.W.Frag} {mg : Str → Option Value} {base : Heap} (T : TX K w mg) (D : Dn K mg "bring_by" t_bring_by) (c_spread : Cl P w K mg base 3 "spread" (s_spread P w K)) : Cl P w K mg base 4 "bring_by" (s_bring_by P w K) := by
  refine mk_cl D sc_bring_by (fun _ _ _ _ _ _ us hl => match us, hl with | [_, _, _, _], _ => rfl) (fun vs H Q E h => by obtain ⟨_, _, _, _, rfl, _⟩ := h; rfl) (fun f cdv A outer s H vs Q E hr h => ?_)
  obtain ⟨v0, v1, v2, v3, rfl, h⟩ := h
  refine ⟨_, (pss_cons (ps_set (i := 4) sc_bring_by.nd rfl (.inl rfl) (pe_d c_spread hr (by decide) (by rfl) (pa_cons (pv 0) (pa_cons (pe_op op_catT (pv 1) (pe_tup (pa_cons (pv 2) pa_nil))) pa_nil))))
      (pss_cons (ps_setLc (i := 5) (own := [("place", 6), ("row", 7)]) (g := (gTup _ 2 (gCons (gName 6) (gCons (gName 7) (gNil))))) rfl sc_bring_by.nd rfl rfl (sw_true rfl rfl rfl (by decide +kernel)) (pi_pitems (pv 4)) (blkOk_by (N := N_bring_by) (sc := defScope t_bring_by) (by decide +kernel)) (fun _ _ _ _ _ => pg_tup rfl (pgs_cons (pg_name (i := 6) sc_bring_by.nd rfl (Or.inl rfl)) (pgs_cons (pg_name (i := 7) sc_bring_by.nd rfl (Or.inl rfl)) pgs_nil))) (fun _ _ _ _ _ => pts_one (pt_cmpR op_eq (pe_ix (r := rIxT K) ix_tup (pv 6) pe_int (fun _ _ => rfl)) (pv 3) (nomark _))) (fun _ _ _ _ _ => (pe_tup (pa_cons (pe_callB (r := fun xs H Q => ∃ x n, xs = [x] ∧ LenV K x H n ∧ Q (.int n) H) call_len (by rfl) T.len (by decide +kernel) (pa_cons (pv 7) pa_nil)) (pa_cons (pv 7) pa_nil)))))
      (pss_cons (ps_if (pt_cmpR (op_eqD hr.units) (pv 5) (pe_lst pa_nil) (nomark _)) (pss_one (ps_ret (pe_tup (pa_cons (g_never T (by rfl)) (pa_cons (pe_callTy call_tupleF (by rfl) T.tuple (by decide +kernel) (pa_cons (pe_callB (cr_sortPD rfl (un9 hr)) (by rfl) T.sorted (by decide +kernel) (pa_cons (pv 4) pa_nil)) pa_nil)) pa_nil))))) pss_nil)
      (pss_one (ps_ret (pe_tup (pa_cons (g_row T (by rfl)) (pa_cons (pe_ix ix_tup (pe_callB (cr_minPr rfl (un9 hr)) (by rfl) T.min (by decide +kernel) (pa_cons (pv 5) pa_nil)) pe_int (fun _ _ => rfl)) pa_nil)))))))), ?_⟩
  obtain ⟨a, b, fl, st, s, u, rfl, rfl, rfl, rfl, hf, ok, ⟨pc, pl, h0, hc, hy⟩, so, h1, h2, qn, qr⟩ := h
  have vp := vp_of so h1
  refine ⟨_, rfl, _, rfl, _, rfl, two_le _ (by show 1 ≤ 1000; decide), fun t ht => ?_⟩
  have s1 : Same H (upd H t (.tup [.int s])) := same_new ht
  refine ⟨b, t, _, _, rfl, rfl, SqT.of (s1 _ _ h0), SqT.of upd_same, (fun z => nomatch z), two_le _ (by show 3 ≤ 1000; decide), (fun z => nomatch z), fun _ t2 ht2 => ?_⟩
  have s2 := s1.trans (same_new (o := .tup [.ref pc, .ref pl, .int s]) ht2)
  refine ⟨_, _, rfl, a, t2, fl, (st.1, st.2, s), rfl, rfl, hf.same s2, ok, ⟨pc, pl, upd_same, hc.same s2, hy.same s2⟩, vp, fun d H3 xs F s3 hd0 hd mt hk inw => ?_⟩
  have s13 := s2.trans s3
  have hdH : H d = none := s2.free hd0
  have hFle := inw.bf.le vp ok.le
  refine ⟨_, rfl, d, xs, rfl, hd, fun od D hD => ?_⟩
  have sf : Same H (upd H3 d (.frz od (PD P w d xs))) := same_upd s13 hdH
  have hkf : PKeys (upd H3 d (.frz od (PD P w d xs))) xs := hk.mono (TupS.upd fun ys e => by rw [hd] at e; cases e)
  refine lc_it walk_pitems (fun i H4 => Same (upd H3 d (.frz od (PD P w d xs))) H4 ∧ ∃ bs rs, H4 D = some (.lst (bs.map V.ref)) ∧ Paired (fun c (r : List Lt) => PrAt H4 c (prOf r)) bs rs ∧ bs.length ≤ i ∧ ∀ r ∈ rs, ∃ k, (k, r) ∈ F ∧ k.2.2 = u)
    ⟨same_new hD, [], [], upd_same, .nil, Nat.le_refl _, fun r hr => nomatch hr⟩ (fun i H4 _ hP => hP.1 _ _ upd_same) (fun i x H4 H5 hi hP hY => ?_) (fun H4 hP => ?_)
  · obtain ⟨T, x, hx, rfl, hT, rfl⟩ := hY
    obtain ⟨s4, bs, rs, hDl, hpr, hbl, hrs⟩ := hP
    obtain ⟨r, hr1, hr2⟩ := mt.get hx
    have s5 : Same H4 (upd H4 T (.tup [.ref x.2.1, x.2.2])) := same_new hT
    obtain ⟨c1, c2, k0, _, _⟩ := (hkf x (List.mem_of_getElem? hx)).same (s4.trans s5)
    have hF : (x.1, r) ∈ F := List.mem_of_getElem? hr1
    have hrl : r.length < F.length := (inw.bf.ok _ hF).2
    have hxl := mt.len
    refine ⟨T, _, rfl, SqT.of upd_same, rfl, _, _, rfl, _, _, rfl, rfl, rfl, ?_⟩
    rw [hr2]
    rw [hr2] at k0 s5
    refine ⟨_, rfl, x.2.1, _, 2, _, rfl, rfl, SqT.of k0, rfl, _, rfl, rfl, _, rfl, ite2 (fun c => ?_) (fun c => ?_)⟩
    · have hu : x.1.2.2 = u := V.int.inj (of_decide_eq_true c)
      refine ⟨_, rfl, _, _, rfl, ⟨?_, rfl⟩, _, rfl, two_le _ (by show 2 ≤ 1000; decide), fun t3 ht3 => ?_⟩
      · rw [rowS_length, sizeLine_eq]
        omega
      have hD5 := s5 _ _ hDl
      have s6 : Same (upd H4 T (.tup [.ref x.2.1, .str (rowS r)])) (upd (upd H4 T (.tup [.ref x.2.1, .str (rowS r)])) t3 (.tup [.int ((rowS r).length : Nat), .str (rowS r)])) := same_new ht3
      refine ⟨_, s6 _ _ hD5, ?_, same_upd (s4.trans (s5.trans s6)) hD, bs ++ [t3], rs ++ [r], ?_, ?_, ?_, ?_⟩
      · rw [List.length_map, sizeLine_eq]
        omega
      · rw [upd_same, List.map_append]
        rfl
      · have t7 : TupS (upd (upd H4 T (.tup [.ref x.2.1, .str (rowS r)])) t3 (.tup [.int ((rowS r).length : Nat), .str (rowS r)])) (upd (upd (upd H4 T (.tup [.ref x.2.1, .str (rowS r)])) t3 (.tup [.int ((rowS r).length : Nat), .str (rowS r)])) D (.lst (bs.map V.ref ++ [.ref t3]))) :=
          TupS.upd fun ys e => by rw [s6 _ _ hD5] at e; cases e
        exact paired_snoc (Paired.mapP hpr fun _ _ e => t7 _ _ (s6 _ _ (s5 _ _ e))) (t7 _ _ upd_same)
      · rw [List.length_append, List.length_singleton]
        omega
      · intro r' hr'
        rcases List.mem_append.mp hr' with z | z
        · exact hrs r' z
        · have : r' = r := by simpa using z
          rw [this]
          exact ⟨x.1, hF, hu⟩
    · exact ⟨s4.trans s5, bs, rs, s5 _ _ hDl, Paired.mapP hpr fun _ _ e => s5 _ _ e, by omega, hrs⟩
  · obtain ⟨s4, bs, rs, hDl, hpr, hbl, hrs⟩ := hP
    have hps := paired_mapR (R := PrAt H4) (f := prOf) hpr
    have hok : ∀ p ∈ rs.map prOf, PyData.strOk p.2 = true := fun p hp => by
      obtain ⟨r, hr, rfl⟩ := List.mem_map.mp hp
      obtain ⟨k, hk1, hk2⟩ := hrs r hr
      have m2 : r.length < F.length := (inw.bf.ok _ hk1).2
      exact str_ok (by omega)
    refine ⟨_, rfl, two_le _ (by show 0 ≤ 1000; decide), fun e he => ?_⟩
    have se : Same H4 (upd H4 e (.lst [])) := same_new he
    have s5 := sf.trans (s4.trans se)
    refine eq_nil (ds := (rs.map prOf).map prD) (SqL.of (se _ _ hDl)) (prs_dp (Paired.mapP hps fun _ _ z => se _ _ z)) (prDs_lay _ hok) (Nat.le_trans (prD_depths _) (by decide)) upd_same ⟨_, rfl, ite2 (fun c => ?_) (fun c => ?_)⟩
    · refine ⟨_, rfl, d, xs, rfl, .inr ⟨od, (s4.trans se) _ _ upd_same⟩, hkf.mono (same_tup (s4.trans se)), fun ys p hyl hp => ?_⟩
      refine ⟨p, ys, rfl, SqL.of upd_same, fun l o hl ho => ⟨two_le _ (by show 2 ≤ 1000; decide), fun t4 ht4 => ?_⟩⟩
      exact qn t4 _ _ (s5.trans ((same_new hp).trans ((same_new hl).trans (same_new ht4)))) upd_same
    · have hne : bs ≠ [] := fun z => by
        subst z
        cases hpr
        exact c rfl
      refine ⟨_, rfl, D, bs, rs.map prOf, rfl, SqL.of (se _ _ hDl), Paired.mapP hps fun _ _ z => se _ _ z, hne, fun c5 hc5 => ?_⟩
      obtain ⟨r, hr, hat⟩ := paired_mem hpr hc5
      obtain ⟨k, hk1, hk2⟩ := hrs r hr
      obtain ⟨m1, m2⟩ := inw.bf.ok _ hk1
      have m2 : r.length < F.length := m2
      refine ⟨c5, _, 1, _, rfl, rfl, SqT.of (se _ _ hat), rfl, two_le _ (by show 2 ≤ 1000; decide), fun t4 ht4 => ?_⟩
      exact qr t4 r _ (s5.trans (same_new ht4)) upd_same ⟨k, m1, hk2⟩ (by omega)
theorem w_bring {P : Program} {w : World} {K : PySem.W.Frag} {mg : Str → Option Value} {base : Heap} (T : TX K w mg) (D : Dn K mg "bring" t_bring) (c_need_wish : Cl P w K mg base 7 "need_wish" (s_need_wish P w K)) (c_bring_by : Cl P w K mg base 4 "bring_by" (s_bring_by P w K)) : Cl P w K mg base 8 "bring" (s_bring P w K) := by
  refine mk_cl D sc_bring (fun _ _ _ _ _ _ us hl => match us, hl with | [_, _, _, _], _ => rfl) (fun vs H Q E h => by obtain ⟨_, _, _, _, rfl, _⟩ := h; rfl) (fun f cdv A outer s H vs Q E hr h => ?_)
  obtain ⟨v0, v1, v2, v3, rfl, h⟩ := h
  refine ⟨_, (pss_cons (ps_expr (pe_d c_need_wish hr (by decide) (by rfl) (pa_cons (pv 0) (pa_cons (pv 1) (pa_cons (pv 2) (pa_cons (pv 3) pa_nil))))))
      (pss_one (ps_ret (pe_d c_bring_by hr (by decide) (by rfl) (pa_cons (pv 0) (pa_cons (pv 1) (pa_cons (pv 2) (pa_cons (pv 3) pa_nil)))))))), ?_⟩
  obtain ⟨a, b, fl, st, s, u, rfl, rfl, rfl, rfl, hf, ok, hst, so, h1, h2, qn, qr⟩ := h
  refine ⟨_, rfl, _, rfl, _, rfl, _, rfl, _, _, _, _, rfl, a, b, fl, st, s, u, rfl, rfl, rfl, rfl, hf, ok, hst, so, h1, h2, fun H1 s1 => ?_⟩
  refine ⟨_, rfl, _, rfl, _, rfl, _, rfl, _, _, _, _, rfl, a, b, fl, st, s, u, rfl, rfl, rfl, rfl, hf.same s1, ok, hst.same s1, so, h1, h2, fun p v H2 s2 e => ?_, fun p r H2 s2 e hq hz => ?_⟩
  · exact qn p v _ (s1.trans s2) e
  · exact qr p r _ (s1.trans s2) e hq hz
theorem w_does_bring {P : Program} {w : World} {K : PySem.W.Frag} {mg : Str → Option Value} {base : Heap} (T : TX K w mg) (D : Dn K mg "does_bring" t_does_bring) (c_moved : Cl P w K mg base 2 "moved" (s_moved P w K)) : Cl P w K mg base 3 "does_bring" (s_does_bring P w K) := by
  refine mk_cl D sc_does_bring (fun _ _ _ _ _ _ us hl => match us, hl with | [_, _, _, _, _], _ => rfl) (fun vs H Q E h => by obtain ⟨_, _, _, _, _, rfl, _⟩ := h; rfl) (fun f cdv A outer s H vs Q E hr h => ?_)
  obtain ⟨v0, v1, v2, v3, v4, rfl, h⟩ := h
  refine ⟨_, (pss_cons (ps_if ((pw_or (pt_not (pt_val (pe_callB call_isi (by rfl) T.isi (by decide +kernel) (pa_cons (pv 4) (pa_cons (pe_bltn (v := V.ty "str") (u := Value.type "str") (by rfl) T.str (by decide +kernel) rfl) pa_nil))))) (pw_or1 (pt_not (pt_val (pe_callB (cr_all rfl) (by rfl) T.all (by decide +kernel) (pa_cons (pe_lc (own := [("letter", 6)]) (g := (gName 6)) rfl sc_does_bring.nd (pi_str (pv 4)) (blkOk_by (N := N_does_bring) (sc := defScope t_does_bring) (by decide +kernel)) (fun _ _ _ _ _ => pg_name (i := 6) sc_does_bring.nd rfl (Or.inl rfl)) (fun _ _ _ _ _ => pts_nil) (fun _ _ _ _ _ => (pe_cmpR op_in_sign (pv 6) (g_lets T (by rfl)) (by rfl)))) pa_nil))))))).pt (pss_one (ps_ret pe_bl)) pss_nil)
      (pss_cons (ps_set (i := 5) sc_does_bring.nd rfl (.inl rfl) (pe_op op_catT (pv 1) (pe_tup (pa_cons (pv 2) pa_nil))))
      (pss_cons (ps_for PassesOwn.never rfl (pi_str (pv 4)) (pg_name (i := 6) sc_does_bring.nd rfl (.inl rfl)) (pss_cons (ps_set (i := 5) sc_does_bring.nd rfl (.inl rfl) (pe_d c_moved hr (by decide) (by rfl) (pa_cons (pv 0) (pa_cons (pv 5) (pa_cons (pv 6) pa_nil)))))
      (pss_one (ps_if (pt_cmpR op_isN (pv 5) pe_non (nomark _)) (pss_one (ps_ret pe_bl)) pss_nil))))
      (pss_one (ps_ret (pe_cmpR op_eq (pe_ix ix_tup (pv 5) pe_int (fun _ _ => rfl)) (pv 3) (nomark _))))))), ?_⟩
  obtain ⟨a, b, fl, st, s, u, r, q', rfl, rfl, rfl, rfl, rfl, hf, ok, ⟨pc, pl, h0, hc, hy⟩, so, hz, hm, hu, q⟩ := h
  refine ⟨_, rfl, _, _, _, _, true, rfl, .ty _, .base (.str _), kit_ty (by decide +kernel), true, rfl, ?_⟩
  refine ⟨_, rfl, _, rfl, fun D hD => ?_⟩
  refine lc_map (walk_str (z := rowS r)) (yes r.length) (by rw [yes_length, rowS_size]) (by rw [rowS_size, sizeLine_eq]; omega) hD (fun _ _ => True.intro) (fun i x y H2 H3 R hi hy2 s2 hY q3 => ?_) (fun H2 s2 e => ?_)
  · obtain ⟨rfl, c, hc2, rfl⟩ := hY
    cases yes_get hy2
    obtain ⟨l, _, hl⟩ := rowS_get hc2
    refine ⟨rfl, _, rfl, c, _, rfl, rfl, ?_⟩
    rw [decide_eq_true (by rw [hl]; exact in_lts l)]
    exact q3 _ fun _ _ e => e
  refine ⟨D, List.replicate _ true, rfl, SqL.of e, ?_⟩
  rw [yes_all]
  refine ⟨true, rfl, ?_⟩
  refine ⟨_, rfl, _, rfl, two_le _ (by show 1 ≤ 1000; decide), fun t ht => ?_⟩
  have s3 := s2.trans (same_new (o := .tup [.int s]) ht)
  refine ⟨b, t, _, _, rfl, rfl, SqT.of (s3 _ _ h0), SqT.of upd_same, (fun z => nomatch z), two_le _ (by show 3 ≤ 1000; decide), (fun z => nomatch z), fun _ t2 ht2 => ?_⟩
  have s4 := s3.trans (same_new (o := .tup [.ref pc, .ref pl, .int s]) ht2)
  refine ⟨_, rfl, _, rfl, ?_⟩
  refine for_it (walk_str (z := rowS r)) (fun i σ H1 => Same H H1 ∧ ∃ pp x v6, σ = [some (.ref a), some (.ref b), some (.int s), some (.int u), some (.str (rowS r)), some (.ref pp), v6] ∧ mvs fl (st.1, st.2, s) (r.take i) = some x ∧ PlAt H1 pp x)
    ⟨s4, t2, _, _, rfl, rfl, ⟨pc, pl, upd_same, hc.same s4, hy.same s4⟩⟩ (fun _ _ _ _ _ => True.intro) (fun i x σ H1 H2 hi hP hY => ?_) (fun σ H1 hP => ?_)
  · obtain ⟨rfl, sg, hsg, rfl⟩ := hY
    obtain ⟨s5, pp, k, v6, rfl, hk, hpp⟩ := hP
    obtain ⟨l, e1, e2⟩ := row_sign hsg
    obtain ⟨k', k2, g1, g2, g3⟩ := mvs_split hm e1
    obtain rfl : k' = k := Option.some.inj (g1.symm.trans hk)
    rw [e2]
    refine ⟨_, rfl, _, rfl, _, rfl, _, _, _, rfl, a, pp, fl, k', l, rfl, rfl, rfl, hf.same s5, hpp, fun hn => absurd (hn.symm.trans g2) (fun z => nomatch z), fun o ho t3 H3 s6 ht3 => ?_⟩
    obtain rfl : o = k2 := Option.some.inj (ho.symm.trans g2)
    refine ⟨_, rfl, rfl, _, rfl, ?_⟩
    rw [decide_eq_false (fun z => nomatch z : ¬ V.ref t3 = V.non)]
    exact ⟨s5.trans s6, t3, o, _, rfl, g3, ht3⟩
  · obtain ⟨s5, pp, k, v6, rfl, hk, ⟨c1, c2, hpp, _, _⟩⟩ := hP
    rw [List.take_of_length_le (Nat.le_of_eq (rowS_size r).symm), hm] at hk
    cases hk
    refine ⟨_, rfl, pp, _, 2, _, rfl, rfl, SqT.of hpp, rfl, _, rfl, rfl, ?_⟩
    exact bl_true (Q := Q) (congrArg V.int hu) (q _ s5)
theorem w_shows_bring {P : Program} {w : World} {K : PySem.W.Frag} {mg : Str → Option Value} {base : Heap} (T : TX K w mg) (D : Dn K mg "shows_bring" t_shows_bring) (c_need_wish : Cl P w K mg base 7 "need_wish" (s_need_wish P w K)) (c_are_some : Cl P w K mg base 1 "are_some" (s_are_some P w K)) (c_does_bring : Cl P w K mg base 3 "does_bring" (s_does_bring P w K)) : Cl P w K mg base 8 "shows_bring" (s_shows_bring P w K) := by
  refine mk_cl D sc_shows_bring (fun _ _ _ _ _ _ us hl => match us, hl with | [_, _, _, _, _], _ => rfl) (fun vs H Q E h => by obtain ⟨_, _, _, _, _, rfl, _⟩ := h; rfl) (fun f cdv A outer s H vs Q E hr h => ?_)
  obtain ⟨v0, v1, v2, v3, v4, rfl, h⟩ := h
  refine ⟨_, (pss_cons (ps_expr (pe_d c_need_wish hr (by decide) (by rfl) (pa_cons (pv 0) (pa_cons (pv 1) (pa_cons (pv 2) (pa_cons (pv 3) pa_nil))))))
      (pss_cons (ps_if ((pw_or (pt_not (pt_val (pe_d c_are_some hr (by decide) (by rfl) (pa_cons (pv 4) (pa_cons pe_int (pa_cons pe_int pa_nil)))))) (pw_or1 (pt_not (pt_val (pe_callB call_isi (by rfl) T.isi (by decide +kernel) (pa_cons (pe_ix ix_tup (pv 4) pe_int (fun _ _ => rfl)) (pa_cons (pe_bltn (v := V.ty "str") (u := Value.type "str") (by rfl) T.str (by decide +kernel) rfl) pa_nil)))))))).pt (pss_one (ps_ret pe_bl)) pss_nil)
      (pss_cons (ps_if (pt_cmpR op_eq (pe_ix ix_tup (pv 4) pe_int (fun _ _ => rfl)) (g_row T (by rfl)) (nomark _)) (pss_one (ps_ret (pe_d c_does_bring hr (by decide) (by rfl) (pa_cons (pv 0) (pa_cons (pv 1) (pa_cons (pv 2) (pa_cons (pv 3) (pa_cons (pe_ix ix_tup (pv 4) pe_int (fun _ _ => rfl)) pa_nil)))))))) pss_nil)
      (pss_one ps_never)))), ?_⟩
  obtain ⟨a, b, g, fl, st, s, u, r, q', rfl, rfl, rfl, rfl, rfl, hg, hf, ok, hst, so, h1, h2, hz, hm, hu, q⟩ := h
  refine ⟨_, rfl, _, rfl, _, rfl, _, rfl, _, _, _, _, rfl, a, b, fl, st, s, u, rfl, rfl, rfl, rfl, hf, ok, hst, so, h1, h2, fun H1 s1 => ?_⟩
  refine ⟨_, rfl, _, _, _, rfl, g, _, 2, 2, rfl, .inl (s1 _ _ hg), rfl, rfl, by simp, by simp, true, rfl, ?_⟩
  refine ⟨_, rfl, g, _, 0, _, rfl, rfl, SqT.of (s1 _ _ hg), rfl, _, _, _, _, true, rfl, .ty _, .base (.str _), kit_ty (by decide +kernel), true, rfl, ?_⟩
  refine ⟨_, rfl, g, _, 0, _, rfl, rfl, SqT.of (s1 _ _ hg), rfl, rfl, _, rfl, ?_⟩
  rw [decide_eq_true rfl]
  refine ⟨_, rfl, _, rfl, _, rfl, _, rfl, _, rfl, g, _, 1, _, rfl, rfl, SqT.of (s1 _ _ hg), rfl, _, _, _, _, _, rfl, a, b, fl, st, s, u, r, q', rfl, rfl, rfl, rfl, rfl, hf.same s1, ok, hst.same s1, so, hz, hm, hu, fun H2 s2 => ?_⟩
  exact q _ (s1.trans s2)
end TM
end
/-! ## TW7 -/
section
namespace TM
open PySem PySem.Spec PyProof.Rows L2
theorem un1 {A : Around} {k : Nat} (hr : Room k A) : A.units + 1 < cLine := by have := hr.units; omega
theorem setI_it {J : It} {n : Nat} {G : Hp → Prop} {Y : Nat → Hp → V → Hp → Prop} (wk : Walk J n G Y) {w : World} {g : TG} {te : TE} {vs : List Nat} {σ : L2.St} {H1 : Hp} {D : Addr} {Qd : Hp → Prop} (Pv : Nat → Hp → Prop) (h0 : Pv 0 (upd H1 D (noInts w D))) (hG : ∀ i H, i ≤ n → Pv i H → G H)
    (hs : ∀ i x H H', i < n → Pv i H → Y i H x H' → g x (wipe σ vs) H' fun τ Z => wipe τ vs = wipe σ vs ∧ te τ Z (AddTo w D (Pv (i + 1)))) (hd : ∀ H, Pv n H → Qd H) :
    ∃ W : Nat → Nat → Hp → Prop, (∃ m, W 0 m (upd H1 D (noInts w D))) ∧
      ∀ i m H, W i m H → (J.stop i H ∧ Qd H) ∨ (J.go i H ∧ ∃ Nx : Hp → Prop, (∀ Z, Nx Z → ∃ k, k < m ∧ W (i + 1) k Z) ∧ ∀ x Z, J.yld i H x Z → g x (wipe σ vs) Z fun τ Y => wipe τ vs = wipe σ vs ∧ te τ Y (AddTo w D Nx)) := by
  refine ⟨fun i m H => m = n - i ∧ i ≤ n ∧ Pv i H, ⟨n, by omega, Nat.zero_le n, h0⟩, ?_⟩
  rintro i m H ⟨rfl, hi, p⟩
  have hg := hG i H hi p
  rcases Nat.lt_or_ge i n with lt | ge
  · exact .inr ⟨wk.goes i H lt hg, Pv (i + 1), fun Z z => ⟨n - (i + 1), by omega, rfl, lt, z⟩, fun x Z y => hs i x H Z lt p (wk.yields i H x Z lt hg y)⟩
  · obtain rfl : i = n := Nat.le_antisymm hi ge
    exact .inl ⟨wk.stops H hg, hd H p⟩
def s_may_come (P : Program) (w : World) (K : PySem.W.Frag) : Sp := sp3 fun x y z H Q => ∃ a b fl st s, x = .ref a ∧ y = .ref b ∧ z = .int s ∧ FlAt H a fl ∧ FlOk fl ∧ StAt H b st ∧ StOk fl st ∧ InS fl s ∧
  ∀ p H' ns, Same H H' → IntsAt H' p ns → ns.Pairwise (· < ·) → (∀ k, k ∈ ns ↔ May fl (st.1, st.2, s) k) → ns.length ≤ 1000 → Q (.ref p) H'
def s_still (P : Program) (w : World) (K : PySem.W.Frag) : Sp := sp2 fun x y H Q => ∃ a b fl st, x = .ref a ∧ y = .ref b ∧ FlAt H a fl ∧ FlOk fl ∧ StAt H b st ∧ StOk fl st ∧
  ∀ p H' ns, Same H H' → IntsAt H' p ns → ns.Pairwise (· < ·) → (∀ k, k ∈ ns ↔ (0 ≤ k ∧ k < 6 + (fl.length : Int)) ∧ ¬ Tch fl (st.1, st.2, -1) k) → ns.length ≤ 1000 → Q (.ref p) H'
def s_undoing (P : Program) (w : World) (K : PySem.W.Frag) : Sp := sp3 fun x y z H Q => ∃ a b fl st r, x = .ref a ∧ y = .ref b ∧ z = .str (rowS r) ∧ FlAt H a fl ∧ FlOk fl ∧ StAt H b st ∧ StOk fl st ∧ lets fl st.1 r ∧ r.length ≤ 10000 ∧ ∀ H', Same H H' → Q (.str (rowS (undo r))) H'
def twelve : List Int := [-1, 0, 1, 2, 3, 4, 5, 6, 7, 8, 9, 10]
theorem in_twelve {k : Int} (h0 : -1 ≤ k) (h1 : k < 11) : k ∈ twelve := by
  have : k = -1 ∨ k = 0 ∨ k = 1 ∨ k = 2 ∨ k = 3 ∨ k = 4 ∨ k = 5 ∨ k = 6 ∨ k = 7 ∨ k = 8 ∨ k = 9 ∨ k = 10 := by omega
  rcases this with rfl | rfl | rfl | rfl | rfl | rfl | rfl | rfl | rfl | rfl | rfl | rfl <;> decide
theorem w_may_come {P : Program} {w : World} {K : PySem.W.Frag} {mg : Str → Option Value} {base : Heap} (T : TX K w mg) (D : Dn K mg "may_come" t_may_come) (c_need_stand : Cl P w K mg base 6 "need_stand" (s_need_stand P w K)) (c_need_spot : Cl P w K mg base 3 "need_spot" (s_need_spot P w K)) (c_spread : Cl P w K mg base 3 "spread" (s_spread P w K)) : Cl P w K mg base 7 "may_come" (s_may_come P w K) := by
  refine mk_cl D sc_may_come (fun _ _ _ _ _ _ us hl => match us, hl with | [_, _, _], _ => rfl) (fun vs H Q E h => by obtain ⟨_, _, _, rfl, _⟩ := h; rfl) (fun f cdv A outer s H vs Q E hr h => ?_)
  obtain ⟨v0, v1, v2, rfl, h⟩ := h
  refine ⟨_, (pss_cons (ps_expr (pe_d c_need_stand hr (by decide) (by rfl) (pa_cons (pv 0) (pa_cons (pv 1) pa_nil))))
      (pss_cons (ps_expr (pe_d c_need_spot hr (by decide) (by rfl) (pa_cons (pv 0) (pa_cons (pv 2) pa_nil))))
      (pss_one (ps_ret (pe_callTy call_tupleF (by rfl) T.tuple (by decide +kernel) (pa_cons (pe_callB (cr_sortedSet rfl) (by rfl) T.sorted (by decide +kernel) (pa_cons (pe_setI (own := [("place", 3)]) (g := (gName 3)) rfl sc_may_come.nd (pi_pkeys (pe_d c_spread hr (by decide) (by rfl) (pa_cons (pv 0) (pa_cons (pe_op op_catT (pv 1) (pe_tup (pa_cons (pv 2) pa_nil))) pa_nil)))) (blkOk_by (N := N_may_come) (sc := defScope t_may_come) (by decide +kernel)) (fun _ _ _ _ _ => pg_name (i := 3) sc_may_come.nd rfl (Or.inl rfl)) (fun _ _ _ _ _ => (pe_ix (r := rIxT K) ix_tup (pv 3) pe_int (fun _ _ => rfl)))) pa_nil)) pa_nil)))))), ?_⟩
  obtain ⟨a, b, fl, st, s, rfl, rfl, rfl, hf, ok, hst, so, h1, q⟩ := h
  have vp := vp_of so h1
  have h5 := ok.le
  refine ⟨_, rfl, _, rfl, _, _, rfl, a, b, fl, st, rfl, rfl, hf, ok, hst, so, fun G1 g1 => ?_⟩
  refine ⟨_, rfl, _, rfl, _, _, rfl, a, fl, s, rfl, rfl, hf.same g1, h1, fun G2 g2 => ?_⟩
  have g12 := g1.trans g2
  obtain ⟨pc, pl, h0, hc, hy⟩ := hst.same g12
  refine ⟨_, rfl, _, rfl, _, rfl, two_le _ (by show 1 ≤ 1000; decide), fun t ht => ?_⟩
  have s1 : Same G2 (upd G2 t (.tup [.int s])) := same_new ht
  refine ⟨b, t, _, _, rfl, rfl, SqT.of (s1 _ _ h0), SqT.of upd_same, (fun z => nomatch z), two_le _ (by show 3 ≤ 1000; decide), (fun z => nomatch z), fun _ t2 ht2 => ?_⟩
  have s2 := s1.trans (same_new (o := .tup [.ref pc, .ref pl, .int s]) ht2)
  refine ⟨_, _, rfl, a, t2, fl, (st.1, st.2, s), rfl, rfl, (hf.same g12).same s2, ok, ⟨pc, pl, upd_same, hc.same s2, hy.same s2⟩, vp, fun d H3 xs F s3 hd0 hd mt hk inw => ?_⟩
  have s13 := g12.trans (s2.trans s3)
  have hdH : H d = none := (g12.trans s2).free hd0
  have rng : ∀ x ∈ xs, -1 ≤ x.1.2.2 ∧ x.1.2.2 < 11 := fun x hx => by
    have hm : x.1 ∈ kys F := by
      rw [← mt.keys]
      exact List.mem_map.mpr ⟨x, hx, rfl⟩
    have v := inw.bf.vp vp _ hm
    have := v.lo
    have := v.hi
    omega
  refine ⟨d, xs, rfl, hd, fun od D hD => ?_⟩
  have sf : Same H (upd H3 d (.frz od (PD P w d xs))) := same_upd s13 hdH
  have hkf : PKeys (upd H3 d (.frz od (PD P w d xs))) xs := hk.mono (TupS.upd fun ys e => by rw [hd] at e; cases e)
  refine setI_it walk_pkeys (fun i G => Same (upd H3 d (.frz od (PD P w d xs))) G ∧ ∃ S l, G D = some (SetO w D S l.length) ∧ l.Nodup ∧ (∀ k : Int, S k = true ↔ k ∈ l) ∧ ∀ k : Int, k ∈ l ↔ ∃ x ∈ xs.take i, x.1.2.2 = k)
    ⟨same_new hD, _, [], upd_same, List.nodup_nil, fun k => by simp, fun k => by simp⟩ (fun i G _ hP => hP.1 _ _ upd_same) (fun i v G G' hi hP hY => ?_) (fun G hP => ?_)
  · obtain ⟨rfl, x, hx, rfl⟩ := hY
    obtain ⟨s4, S, l, hDl, nd, hS, hl⟩ := hP
    obtain ⟨c1, c2, k0, _, _⟩ := (hkf x (List.mem_of_getElem? hx)).same s4
    have lle : l.length ≤ 12 := nodup_le (m := twelve) nd fun k hk => by
      obtain ⟨y, hy1, hy2⟩ := (hl k).mp hk
      obtain ⟨r1, r2⟩ := rng y (List.mem_of_mem_take hy1)
      rw [← hy2]
      exact in_twelve r1 r2
    refine ⟨rfl, _, rfl, x.2.1, _, 2, _, rfl, rfl, SqT.of k0, rfl, x.1.2.2, S, l.length, rfl, hDl, (by show _ < 4096; omega), same_upd s4 hD, ?_⟩
    have et := take_at hx
    by_cases e : S x.1.2.2 = true
    · rw [if_pos e]
      refine ⟨_, l, upd_same, nd, fun k => ?_, fun k => ?_⟩
      · rw [Bool.or_eq_true, hS k, decide_eq_true_eq]
        exact ⟨fun z => z.elim id fun z => by rw [z]; exact (hS _).mp e, .inl⟩
      · rw [hl k, et]
        constructor
        · rintro ⟨y, hy1, hy2⟩
          exact ⟨y, List.mem_append_left _ hy1, hy2⟩
        · rintro ⟨y, hy1, hy2⟩
          rcases List.mem_append.mp hy1 with z | z
          · exact ⟨y, z, hy2⟩
          · have : y = x := by simpa using z
            subst this
            rw [← hy2]
            exact (hl _).mp ((hS _).mp e)
    · rw [if_neg e]
      refine ⟨fun j => S j || decide (j = x.1.2.2), l ++ [x.1.2.2], ?_, ?_, fun k => ?_, fun k => ?_⟩
      · rw [upd_same, List.length_append, List.length_singleton]
        rfl
      · refine List.nodup_append.mpr ⟨nd, List.nodup_cons.mpr ⟨List.not_mem_nil, List.nodup_nil⟩, fun k hk j hj z => ?_⟩
        have : j = x.1.2.2 := by simpa using hj
        rw [z, this] at hk
        exact e ((hS _).mpr hk)
      · rw [Bool.or_eq_true, hS k, decide_eq_true_eq, List.mem_append, List.mem_singleton]
      · rw [List.mem_append, List.mem_singleton, hl k, et]
        constructor
        · rintro (⟨y, hy1, hy2⟩ | z)
          · exact ⟨y, List.mem_append_left _ hy1, hy2⟩
          · exact ⟨x, List.mem_append_right _ (List.mem_singleton.mpr rfl), z.symm⟩
        · rintro ⟨y, hy1, hy2⟩
          rcases List.mem_append.mp hy1 with z | z
          · exact .inl ⟨y, z, hy2⟩
          · have : y = x := by simpa using z
            exact .inr (by rw [← hy2, this])
  · obtain ⟨s4, S, l, hDl, nd, hS, hl⟩ := hP
    have lle : l.length ≤ 12 := nodup_le (m := twelve) nd fun k hk => by
      obtain ⟨y, hy1, hy2⟩ := (hl k).mp hk
      obtain ⟨r1, r2⟩ := rng y (List.mem_of_mem_take hy1)
      rw [← hy2]
      exact in_twelve r1 r2
    refine ⟨D, S, l.length, rfl, hDl, by omega, fun ns p hs hm hlen hp => ?_⟩
    refine ⟨p, _, rfl, SqL.of upd_same, fun o ob ho hob => ?_⟩
    refine q o _ ns (sf.trans (s4.trans ((same_new hp).trans (same_new ho)))) ⟨ob, hob, upd_same⟩ hs (fun k => ?_) (by omega)
    rw [hm k, hS k, hl k, List.take_length]
    constructor
    · rintro ⟨x, hx, e⟩
      refine ⟨x.1, (inw.reach _).mp ?_, e⟩
      rw [← mt.keys]
      exact List.mem_map.mpr ⟨x, hx, rfl⟩
    · rintro ⟨k2, hr2, e⟩
      have hm2 := (inw.reach _).mpr hr2
      rw [← mt.keys] at hm2
      obtain ⟨x, hx, e2⟩ := List.mem_map.mp hm2
      exact ⟨x, hx, by rw [← e, ← e2]⟩
def Th (fl : List Cell) (p : Pl) (l : Lt) (k : Int) : Prop := bes p.1 l ∈ fl ∧ (k = (rol p.2.1 l).1 ∨ k = own fl (bes p.1 l))
def Tp (fl : List Cell) (xs : List Ent) (k : Int) : Prop := ∃ x ∈ xs, ∃ l, Th fl x.1 l k
def notIn (kvs : List (Key × V)) (v : V) : Bool := match v with
  | .int k => !(valV kvs (.inl k)).isSome
  | _ => false
theorem put_some (kvs : List (Key × V)) (j k : Int) (y : V) : (valV (putK kvs (.inl j) y) (.inl k)).isSome = true ↔ (valV kvs (.inl k)).isSome = true ∨ k = j := by
  rw [valV_put]
  by_cases e : k = j
  · rw [if_pos (congrArg Sum.inl e)]
    exact ⟨fun _ => .inr e, fun _ => rfl⟩
  · rw [if_neg (fun z => e (Sum.inl.inj z))]
    exact ⟨.inl, fun z => z.elim id fun z => absurd z e⟩
theorem ids_rise (n : Nat) : (ids n).Pairwise (· < ·) := by
  unfold ids
  rw [List.pairwise_map]
  exact List.pairwise_lt_range.imp fun {a b} h => Int.ofNat_lt.mpr h
set_option maxHeartbeats 1000000 in
theorem w_still {P : Program} {w : World} {K : PySem.W.Frag} {mg : Str → Option Value} {base : Heap} (T : TX K w mg) (D : Dn K mg "still" t_still) (c_need_stand : Cl P w K mg base 6 "need_stand" (s_need_stand P w K)) (c_spread : Cl P w K mg base 3 "spread" (s_spread P w K)) (c_beside : Cl P w K mg base 1 "beside" (s_beside P w K)) (c_rolled : Cl P w K mg base 1 "rolled" (s_rolled P w K)) (c_spots_of : Cl P w K mg base 1 "spots_of" (s_spots_of P w K)) : Cl P w K mg base 7 "still" (s_still P w K) := by
  refine mk_cl D sc_still (fun _ _ _ _ _ _ us hl => match us, hl with | [_, _], _ => rfl) (fun vs H Q E h => by obtain ⟨_, _, rfl, _⟩ := h; rfl) (fun f cdv A outer s H vs Q E hr h => ?_)
  obtain ⟨v0, v1, rfl, h⟩ := h
  refine ⟨_, (pss_cons (ps_expr (pe_d c_need_stand hr (by decide) (by rfl) (pa_cons (pv 0) (pa_cons (pv 1) pa_nil))))
      (pss_cons (ps_set (i := 2) sc_still.nd rfl (.inr rfl) pe_dnewK)
      (pss_cons (ps_for PassesOwn.never rfl (pi_pkeys (pe_d c_spread hr (by decide) (by rfl) (pa_cons (pv 0) (pa_cons (pe_op op_catT (pv 1) (pe_tup (pa_cons (g_nowh T (by rfl)) pa_nil))) pa_nil)))) (pg_tup rfl (pgs_cons (pg_name (i := 3) sc_still.nd rfl (.inl rfl)) (pgs_cons (pg_name (i := 4) sc_still.nd rfl (.inl rfl)) (pgs_cons (pg_name (i := 5) sc_still.nd rfl (.inl rfl)) pgs_nil)))) (pss_one (ps_for PassesOwn.never rfl (pi_str (g_lets T (by rfl))) (pg_name (i := 6) sc_still.nd rfl (.inl rfl)) (pss_one (ps_if (pt_cmpR (op_inFl (un9 hr)) (pe_d c_beside hr (by decide) (by rfl) (pa_cons (pv 3) (pa_cons (pv 6) pa_nil))) (pv 0) (by rfl)) (pss_cons (ps_asg pe_bl (pg_sub (pv 2) (pe_ix ix_tup (pe_d c_rolled hr (by decide) (by rfl) (pa_cons (pv 4) (pa_cons (pv 6) pa_nil))) pe_int (fun _ _ => rfl)) (set_dict (un1 hr))))
      (pss_one (ps_asg pe_bl (pg_sub (pv 2) (pe_op op_add (g_faces T (by rfl)) (pe_index (mt_indexFl (un9 hr)) (pv 0) (pa_cons (pe_d c_beside hr (by decide) (by rfl) (pa_cons (pv 3) (pa_cons (pv 6) pa_nil))) pa_nil))) (set_dict (un1 hr)))))) pss_nil)))))
      (pss_one (ps_ret (pe_callTy call_tupleF (by rfl) T.tuple (by decide +kernel) (pa_cons (pe_lc (own := [("spot", 5)]) (g := (gName 5)) rfl sc_still.nd (pi_range1 (by rfl) T.range (pa_cons (pe_d c_spots_of hr (by decide) (by rfl) (pa_cons (pv 0) pa_nil)) pa_nil)) (blkOk_by (N := N_still) (sc := defScope t_still) (by decide +kernel)) (fun _ _ _ _ _ => pg_name (i := 5) sc_still.nd rfl (Or.inl rfl)) (fun _ _ _ _ _ => pts_one (pt_cmp (pc_dnotin (un1 hr) (pv 5) (pv 2)))) (fun _ _ _ _ _ => (pv 5))) pa_nil))))))), ?_⟩
  obtain ⟨a, b, fl, st, rfl, rfl, hf, ok, hst, so, q⟩ := h
  have h5 := ok.le
  have vp : VP fl (st.1, st.2, -1) := ⟨so.cell, so.ly, Int.le_refl _, by show (-1 : Int) < 6 + (fl.length : Nat); omega⟩
  refine ⟨_, rfl, _, rfl, _, _, rfl, a, b, fl, st, rfl, rfl, hf, ok, hst, so, fun G1 g1 => ?_⟩
  refine fun f hfn => ?_
  have hfH : H f = none := g1.free hfn
  have g12 : Same H (upd G1 f (.dK [])) := g1.trans (same_new hfn)
  obtain ⟨pc, pl, h0, hc, hy⟩ := hst.same g12
  refine ⟨_, rfl, _, rfl, two_le _ (by show 1 ≤ 1000; decide), fun t ht => ?_⟩
  have s1 : Same (upd G1 f (.dK [])) (upd (upd G1 f (.dK [])) t (.tup [.int (-1)])) := same_new ht
  refine ⟨b, t, _, _, rfl, rfl, SqT.of (s1 _ _ h0), SqT.of upd_same, (fun z => nomatch z), two_le _ (by show 3 ≤ 1000; decide), (fun z => nomatch z), fun _ t2 ht2 => ?_⟩
  have s2 := s1.trans (same_new (o := .tup [.ref pc, .ref pl, .int (-1)]) ht2)
  refine ⟨_, _, rfl, a, t2, fl, (st.1, st.2, -1), rfl, rfl, (hf.same g12).same s2, ok, ⟨pc, pl, upd_same, hc.same s2, hy.same s2⟩, vp, fun d H3 xs F s3 hd0 hd mt hk inw => ?_⟩
  have s23 := s2.trans s3
  have s13 := g12.trans s23
  have hdH : H d = none := (g12.trans s2).free hd0
  have hff := s23 _ _ upd_same
  have hdf : f ≠ d := fun z => by
    rw [z, hd] at hff
    cases hff
  have hFle := inw.bf.le vp ok.le
  have hxl := mt.len
  refine ⟨d, xs, rfl, hd, fun od => ?_⟩
  have sf : Same H (upd H3 d (.frz od (PD P w d xs))) := same_upd s13 hdH
  have hkf : PKeys (upd H3 d (.frz od (PD P w d xs))) xs := hk.mono (TupS.upd fun ys e => by rw [hd] at e; cases e)
  refine for_it walk_pkeys (fun i σ G => ∃ kvs v3 v4 v5 v6, σ = [some (.ref a), some (.ref b), some (.ref f), v3, v4, v5, v6] ∧ Same H G ∧ G d = some (.frz od (PD P w d xs)) ∧ PKeys G xs ∧ G f = some (.dK kvs) ∧ kvs.length ≤ 8 * i ∧
      ∀ k, (valV kvs (.inl k)).isSome = true ↔ Tp fl (xs.take i) k) ⟨[], _, _, _, _, rfl, sf, upd_same, hkf, (by rw [upd_ne hdf]; exact hff), Nat.le_refl _, fun k => ?_⟩ (fun i σ G _ hP => ?_) (fun i v σ G G' hi hP hY => ?_) (fun σ G hP => ?_)
  · constructor
    · intro z
      cases z
    · rintro ⟨x, hx, _⟩
      exact nomatch hx
  · obtain ⟨_, _, _, _, _, _, _, h, _⟩ := hP
    exact h
  · obtain ⟨rfl, x, hx, rfl⟩ := hY
    obtain ⟨kvs, v3, v4, v5, v6, rfl, sG, hGd, hGk, hGf, hlen, hval⟩ := hP
    obtain ⟨c1, c2, k0, kc, ky⟩ := hGk x (List.mem_of_getElem? hx)
    refine ⟨x.2.1, _, rfl, SqT.of k0, rfl, _, _, rfl, _, _, rfl, _, _, rfl, rfl, ?_⟩
    refine ⟨_, (congrArg V.str rowS_lts.symm : V.str "ensw" = V.str (rowS lts)), ?_⟩
    refine for_it (walk_str (z := rowS lts)) (fun j σ G => ∃ kvs v6, σ = [some (.ref a), some (.ref b), some (.ref f), some (.ref c1), some (.ref c2), some (.int x.1.2.2), v6] ∧ Same H G ∧ G d = some (.frz od (PD P w d xs)) ∧ PKeys G xs ∧ G f = some (.dK kvs) ∧ CellAt G c1 x.1.1 ∧ LyAt G c2 x.1.2.1 ∧
      kvs.length ≤ 8 * i + 2 * j ∧ ∀ k, (valV kvs (.inl k)).isSome = true ↔ Tp fl (xs.take i) k ∨ ∃ l ∈ lts.take j, Th fl x.1 l k) ⟨kvs, _, rfl, sG, hGd, hGk, hGf, kc, ky, hlen, fun k => ?_⟩ (fun _ _ _ _ _ => True.intro) (fun j y σ G2 G3 hj hP2 hY2 => ?_) (fun σ G2 hP2 => ?_)
    · rw [hval k]
      exact ⟨.inl, fun z => z.elim id fun ⟨l, hl, _⟩ => nomatch hl⟩
    · obtain ⟨rfl, sg, hsg, rfl⟩ := hY2
      obtain ⟨kvs, v6, rfl, sG, hGd, hGk, hGf, hc1, hc2, hlen, hval⟩ := hP2
      obtain ⟨l, e1, e2⟩ := row_sign hsg
      have hj4 : j < 4 := by
        have := (List.getElem?_eq_some_iff.mp e1).1
        exact this
      rw [e2]
      refine ⟨_, rfl, _, rfl, _, _, rfl, c1, _, l, rfl, rfl, hc1, fun p' G4 g4 hp' => ?_⟩
      refine ⟨_, rfl, p', a, _, fl, rfl, rfl, hp', hf.same (sG.trans g4), _, rfl, ite2 (fun c => ?_) (fun c => ?_)⟩
      · have m1 : bes x.1.1 l ∈ fl := of_decide_eq_true c
        refine ⟨_, rfl, _, rfl, _, rfl, _, _, rfl, c2, _, l, rfl, rfl, hc2.same g4, fun u' G5 g5 hu' => ?_⟩
        have g45 := g4.trans g5
        have hGf5 := g45 _ _ hGf
        refine ⟨u', _, 0, _, rfl, rfl, SqT.of hu', rfl, f, _, rfl, .inl ⟨kvs, .inl (rol x.1.2.1 l).1, hGf5, rfl, (by rw [sizeLine_eq]; omega), rfl⟩, ?_⟩
        have t6 : SameT G5 (upd G5 f (.dK (putK kvs (.inl (rol x.1.2.1 l).1) (.bl true)))) := SameT.at hGf5 (fun ys z => nomatch z) (fun ob v z => nomatch z)
        have s6 : Same H (upd G5 f (.dK (putK kvs (.inl (rol x.1.2.1 l).1) (.bl true)))) := same_upd (sG.trans g45) hfH
        obtain ⟨o, as, ho, ha, _⟩ := hf.same s6
        have hl6 : (putK kvs (.inl (rol x.1.2.1 l).1) (V.bl true) : List (Key × V)).length ≤ kvs.length + 1 := length_putK _ _ _
        refine ⟨_, rfl, _, rfl, ⟨a, o, _, rfl, ho, ha⟩, _, rfl, _, rfl, _, _, rfl, c1, _, l, rfl, rfl, t6.1 _ _ (hc1.same g45), fun p2 G7 g7 hp2 => ?_⟩
        refine ⟨a, p2, fl, _, rfl, rfl, hf.same (s6.trans g7), hp2, m1, 6, _, rfl, rfl, f, _, rfl, .inl ⟨_, .inl (own fl (bes x.1.1 l)), g7 _ _ upd_same, rfl, (by rw [sizeLine_eq]; omega), rfl⟩, ?_⟩
        have hGf7 := g7 _ _ (upd_same (H := G5) (a := f) (o := .dK (putK kvs (.inl (rol x.1.2.1 l).1) (.bl true))))
        have t8 : SameT G7 (upd G7 f (.dK (putK (putK kvs (.inl (rol x.1.2.1 l).1) (.bl true)) (.inl (own fl (bes x.1.1 l))) (.bl true)))) := SameT.at hGf7 (fun ys z => nomatch z) (fun ob v z => nomatch z)
        have tt : SameT G3 (upd G7 f (.dK (putK (putK kvs (.inl (rol x.1.2.1 l).1) (.bl true)) (.inl (own fl (bes x.1.1 l))) (.bl true)))) := (same_T g45).trans (t6.trans ((same_T g7).trans t8))
        have hl8 : (putK (putK kvs (.inl (rol x.1.2.1 l).1) (.bl true)) (.inl (own fl (bes x.1.1 l))) (V.bl true) : List (Key × V)).length ≤ (putK kvs (.inl (rol x.1.2.1 l).1) (V.bl true) : List (Key × V)).length + 1 := length_putK _ _ _
        refine ⟨_, _, rfl, same_upd (s6.trans g7) hfH, tt.2 _ _ _ hGd, hGk.mono tt.1, upd_same, tt.1 _ _ hc1, tt.1 _ _ hc2, by omega, fun k => ?_⟩
        rw [put_some, put_some, hval k, take_at e1]
        constructor
        · rintro ((z | z) | z)
          · rcases z with z | ⟨l', hl', z⟩
            · exact .inl z
            · exact .inr ⟨l', List.mem_append_left _ hl', z⟩
          · exact .inr ⟨l, List.mem_append_right _ (List.mem_singleton.mpr rfl), m1, .inl z⟩
          · exact .inr ⟨l, List.mem_append_right _ (List.mem_singleton.mpr rfl), m1, .inr z⟩
        · rintro (z | ⟨l', hl', z⟩)
          · exact .inl (.inl (.inl z))
          · rcases List.mem_append.mp hl' with y | y
            · exact .inl (.inl (.inr ⟨l', y, z⟩))
            · have : l' = l := by simpa using y
              subst this
              rcases z.2 with z | z
              · exact .inl (.inr z)
              · exact .inr z
      · have m1 : ¬ bes x.1.1 l ∈ fl := fun z => c (decide_eq_true z)
        refine ⟨kvs, _, rfl, sG.trans g4, g4 _ _ hGd, hGk.mono (same_tup g4), g4 _ _ hGf, hc1.same g4, hc2.same g4, by omega, fun k => ?_⟩
        rw [hval k, take_at e1]
        constructor
        · rintro (z | ⟨l', hl', z⟩)
          · exact .inl z
          · exact .inr ⟨l', List.mem_append_left _ hl', z⟩
        · rintro (z | ⟨l', hl', z⟩)
          · exact .inl z
          · rcases List.mem_append.mp hl' with y | y
            · exact .inr ⟨l', y, z⟩
            · have : l' = l := by simpa using y
              subst this
              exact absurd z.1 m1
    · obtain ⟨kvs, v6, rfl, sG, hGd, hGk, hGf, hc1, hc2, hlen, hval⟩ := hP2
      have e4 : (rowS lts).cps.size = 4 := rfl
      rw [e4] at hlen hval
      refine ⟨kvs, _, _, _, _, rfl, sG, hGd, hGk, hGf, by omega, fun k => ?_⟩
      rw [hval k, take_at hx]
      constructor
      · rintro (⟨y, hy1, hy2⟩ | ⟨l, _, z⟩)
        · exact ⟨y, List.mem_append_left _ hy1, hy2⟩
        · exact ⟨x, List.mem_append_right _ (List.mem_singleton.mpr rfl), l, z⟩
      · rintro ⟨y, hy1, l, z⟩
        rcases List.mem_append.mp hy1 with u | u
        · exact .inl ⟨y, u, l, z⟩
        · have : y = x := by simpa using u
          subst this
          exact .inr ⟨l, mem_lts l, z⟩
  · obtain ⟨kvs, v3, v4, v5, v6, rfl, sG, hGd, hGk, hGf, hlen, hval⟩ := hP
    rw [List.take_length] at hval
    refine ⟨_, rfl, _, rfl, a, fl, rfl, hf.same sG, _, rfl, by omega, by omega, fun D hD => ?_⟩
    have en : (6 + (fl.length : Int)).toNat = 6 + fl.length := by omega
    rw [en]
    refine lc_filt (walk_range (lo := 0) (n := 6 + fl.length)) ((ids (6 + fl.length)).map V.int) (notIn kvs) (by rw [List.length_map, ids_length]) (two_le _ (by omega)) hD (fun _ _ => True.intro) (fun i x y G2 G3 R Rn hi hy2 s2 hY q3 q4 => ?_) (fun G2 s2 e => ?_)
    · obtain ⟨rfl, hx⟩ := hY
      have hx : x = .int (i : Nat) := hx.trans (congrArg V.int (Int.zero_add _))
      subst hx
      rw [List.getElem?_map, ids_get hi] at hy2
      obtain rfl : V.int (i : Nat) = y := Option.some.inj hy2
      refine ⟨rfl, _, rfl, _, rfl, f, _, rfl, .inl ⟨kvs, .inl (i : Nat), .inl (s2 _ _ hGf), rfl, rfl⟩, _, rfl, ite2 (fun c => ?_) (fun c => ?_)⟩
      · exact ⟨_, rfl, q3 c _ fun _ _ e => e⟩
      · exact q4 (Bool.eq_false_iff.mpr c) _ fun _ _ e => e
    · refine ⟨D, _, rfl, SqL.of e, fun l o hl ho => ?_⟩
      have ef : ((ids (6 + fl.length)).map V.int).filter (notIn kvs) = ((ids (6 + fl.length)).filter fun k => !(valV kvs (.inl k)).isSome).map V.int := by
        rw [List.filter_map]
        rfl
      refine q l _ ((ids (6 + fl.length)).filter fun k => !(valV kvs (.inl k)).isSome) (sG.trans (s2.trans (same_new hl))) ⟨o, ho, by rw [upd_same, ef]⟩ ((ids_rise _).filter _) (fun k => ?_) ?_
      · rw [List.mem_filter, mem_ids]
        have hT : Tp fl xs k ↔ Tch fl (st.1, st.2, -1) k := by
          constructor
          · rintro ⟨x, hx, l, z1, z2⟩
            refine ⟨x.1, l, (inw.reach _).mp ?_, z1, z2⟩
            rw [← mt.keys]
            exact List.mem_map.mpr ⟨x, hx, rfl⟩
          · rintro ⟨k2, l, hr2, z1, z2⟩
            have hm2 := (inw.reach _).mpr hr2
            rw [← mt.keys] at hm2
            obtain ⟨x, hx, e2⟩ := List.mem_map.mp hm2
            exact ⟨x, hx, l, by rw [e2]; exact z1, by rw [e2]; exact z2⟩
        have hv := hval k
        rw [hT] at hv
        rw [← hv]
        refine and_congr ?_ ?_
        · constructor
          · rintro ⟨z1, z2⟩
            exact ⟨z1, by omega⟩
          · rintro ⟨z1, z2⟩
            exact ⟨z1, by omega⟩
        · cases (valV kvs (.inl k)).isSome <;> simp
      · have := List.length_filter_le (fun k => !(valV kvs (.inl k)).isSome) (ids (6 + fl.length))
        rw [ids_length] at this
        omega
theorem joinL_flat : ∀ ps : List (List Nat), TL.joinL [] ps = ps.flatMap id
  | [] => rfl
  | [p] => by simp [TL.joinL]
  | p :: q :: r => by
    have ih := joinL_flat (q :: r)
    show p ++ ([] ++ TL.joinL [] (q :: r)) = _
    rw [ih, List.nil_append, List.flatMap_cons]
    rfl
theorem join_rows (rs : List (List Lt)) : Txt.join "" (rs.map rowS) = rowS (rs.flatMap id) := by
  rw [TL.join_eq]
  have e : TL.tl (Str.join "" (rs.map rowS)) = TL.tl (rowS (rs.flatMap id)) := by
    rw [TL.tl_join]
    have e0 : TL.tl ("" : Str) = [] := by decide +kernel
    rw [e0, joinL_flat, List.map_map]
    show (rs.map fun r => TL.tl (rowS r)).flatMap id = ((rs.flatMap id).map ltN).toArray.toList
    have e1 : ∀ r, TL.tl (rowS r) = r.map ltN := fun r => by simp [TL.tl, rowS]
    simp only [e1]
    induction rs with
    | nil => rfl
    | cons r rs ih => simpa using ih
  exact TL.ext_tl e
theorem sum3 : ∀ l : List Lt, (l.map fun _ => 3).sum = 3 * l.length
  | [] => rfl
  | a :: l => by
    rw [List.map_cons, List.sum_cons, sum3 l, List.length_cons]
    omega
theorem w_undoing {P : Program} {w : World} {K : PySem.W.Frag} {mg : Str → Option Value} {base : Heap} (T : TX K w mg) (D : Dn K mg "undoing" t_undoing) (c_need_rolls : Cl P w K mg base 7 "need_rolls" (s_need_rolls P w K)) : Cl P w K mg base 8 "undoing" (s_undoing P w K) := by
  obtain ⟨B0, hB0, hB1⟩ := T.back
  refine mk_cl D sc_undoing (fun _ _ _ _ _ _ us hl => match us, hl with | [_, _, _], _ => rfl) (fun vs H Q E h => by obtain ⟨_, _, _, rfl, _⟩ := h; rfl) (fun f cdv A outer s H vs Q E hr h => ?_)
  obtain ⟨v0, v1, v2, rfl, h⟩ := h
  refine ⟨_, (pss_cons (ps_expr (pe_d c_need_rolls hr (by decide) (by rfl) (pa_cons (pv 0) (pa_cons (pv 1) (pa_cons (pv 2) pa_nil)))))
      (pss_one (ps_ret (pe_join pe_str (pe_lc (own := [("letter", 3)]) (g := (gName 3)) rfl sc_undoing.nd (pi_str (pe_revS (pv 2))) (blkOk_by (N := N_undoing) (sc := defScope t_undoing) (by decide +kernel)) (fun _ _ _ _ _ => pg_name (i := 3) sc_undoing.nd rfl (Or.inl rfl)) (fun _ _ _ _ _ => pts_nil) (fun _ _ _ _ _ => (pe_op op_add_str (pe_op op_add_str (pe_ix (r := rIxD K w) ix_kdict (pe_glob (v := .ref B0) (by rfl) hB0 rfl) (pv 3) (fun _ _ => rfl)) (pv 3)) (pe_ix (r := rIxD K w) ix_kdict (pe_glob (v := .ref B0) (by rfl) hB0 rfl) (pv 3) (fun _ _ => rfl))))))))), ?_⟩
  obtain ⟨a, b, fl, st, r, rfl, rfl, rfl, hf, ok, hst, so, hl, hz, q⟩ := h
  refine ⟨_, rfl, _, rfl, _, rfl, _, _, _, rfl, a, b, fl, st, r, rfl, rfl, rfl, hf, ok, hst, so, hl, hz, fun H1 s1 => ?_⟩
  refine ⟨⟨_, rfl⟩, _, rfl, _, rfl, (by rw [rowS_length, sizeLine_eq]; omega), _, rfl, fun D hD => ?_⟩
  rw [rowS_reverse]
  refine lc_map (walk_str (z := rowS r.reverse)) ((r.reverse.map fun l => rowS (und1 l)).map V.str) (by rw [List.length_map, List.length_map, rowS_size]) (by rw [rowS_size, List.length_reverse, sizeLine_eq]; omega) hD (fun _ _ => True.intro) (fun i x y H2 H3 R hi hy s2 hY q3 => ?_) (fun H2 s2 e => ?_)
  · obtain ⟨rfl, sg, hsg, rfl⟩ := hY
    obtain ⟨l, e1, e2⟩ := row_sign hsg
    rw [List.getElem?_map, List.getElem?_map, e1] at hy
    obtain rfl : V.str (rowS (und1 l)) = y := Option.some.inj hy
    rw [e2]
    have sm : ∀ l m : Lt, (ltS l).length + (ltS m).length ≤ sizeLine := fun l m => by
      show 1 + 1 ≤ sizeLine
      rw [sizeLine_eq]
      omega
    refine ⟨rfl, _, rfl, B0, _, _, rfl, rfl, hB1 l, _, rfl, _, _, rfl, rfl, sm _ _, _, rfl, B0, _, _, rfl, rfl, hB1 l, _, _, rfl, rfl, ?_, ?_⟩
    · show (1 + 1) + 1 ≤ sizeLine
      rw [sizeLine_eq]
      omega
    · exact q3 _ fun _ _ e => e
  · refine ⟨"", D, r.reverse.map fun l => rowS (und1 l), rfl, rfl, .inl (SqL.of e), ?_, ?_⟩
    · have es : ((r.reverse.map fun l => rowS (und1 l)).map (·.length)).sum = 3 * r.length := by
        rw [List.map_map]
        have : ((fun x : Str => x.length) ∘ fun l => rowS (und1 l)) = fun _ => 3 := funext fun l => rfl
        rw [this, sum3, List.length_reverse]
      rw [es]
      have e0 : ("" : Str).length = 0 := by decide +kernel
      rw [e0]
      omega
    · have ej : Txt.join "" (r.reverse.map fun l => rowS (und1 l)) = rowS (undo r) := by
        have := join_rows (r.reverse.map und1)
        rw [List.map_map] at this
        rw [undo_eq]
        have e2 : (r.reverse.map und1).flatMap id = r.reverse.flatMap und1 := by simp [List.flatMap]
        rw [← e2]
        exact this
      rw [ej]
      exact q _ (s1.trans s2)
end TM
end
/-! ## TW8 -/
section
namespace TM
open PySem PySem.Spec PyProof.Rows L2
/-- all but what stands at a -/
def SameX (a : Addr) (H H' : Hp) : Prop := ∀ b o, b ≠ a → H b = some o → H' b = some o
theorem SameX.refl (a : Addr) (H : Hp) : SameX a H H := fun _ _ _ e => e
theorem SameX.trans {a : Addr} {H H1 H2 : Hp} (s : SameX a H H1) (t : SameX a H1 H2) : SameX a H H2 := fun b o n e => t b o n (s b o n e)
theorem Same.x {a : Addr} {H H' : Hp} (s : Same H H') : SameX a H H' := fun b o _ e => s b o e
theorem SameX.upd {a : Addr} {H : Hp} {o : HO} : SameX a H (upd H a o) := fun b u n e => by rw [upd_ne n]; exact e
theorem SameX.free {a b : Addr} {H H' : Hp} (s : SameX a H H') (n : b ≠ a) (h : H' b = none) : H b = none := by
  cases e : H b with
  | none => rfl
  | some o => rw [s b o n e] at h; cases h
def PenAt (H : Hp) (a : Addr) (n : Nat) : Prop := ∃ p q t : Int, H a = some (.lst [.int p, .int q, .int t]) ∧ 0 ≤ p ∧ 0 ≤ q ∧ q < 1000000007 ∧ 0 ≤ t ∧ t ≤ n
theorem PenAt.same {H H' : Hp} {a : Addr} {n : Nat} (s : Same H H') (h : PenAt H a n) : PenAt H' a n := let ⟨p, q, t, h0, r⟩ := h; ⟨p, q, t, s _ _ h0, r⟩
theorem PenAt.le {H : Hp} {a : Addr} {n m : Nat} (l : n ≤ m) (h : PenAt H a n) : PenAt H a m := let ⟨p, q, t, h0, h1, h2, h3, h4, h5⟩ := h; ⟨p, q, t, h0, h1, h2, h3, h4, by omega⟩
theorem SameX.tup {a : Addr} {H H' : Hp} {n : Nat} (s : SameX a H H') (h : PenAt H a n) : SameT H H' := by
  obtain ⟨p, q, t, h0, _⟩ := h
  exact ⟨fun b xs e => s b _ (fun z => by rw [z, h0] at e; cases e) e, fun b o u e => s b _ (fun z => by rw [z, h0] at e; cases e) e⟩
theorem cmul {i j : Int} (h0 : 0 ≤ i) (h1 : i < 18446744073709551616) : CMul i j := .inl ⟨by omega, by omega⟩
theorem sqlX {K : PySem.W.Frag} {a b : Addr} {H H' : Hp} {xs : List V} (s : SameX a H H') (n : b ≠ a) (h : SqL K H b xs) : SqL K H' b xs := by
  rcases h with (h | ⟨o, h⟩) | h
  · exact .inl (.inl (s _ _ n h))
  · exact .inl (.inr ⟨o, s _ _ n h⟩)
  · exact .inr h
def s_L_cell_at (P : Program) (w : World) (K : PySem.W.Frag) : Sp := sp2 fun x y H Q => ∃ (a : Addr) (ns : List Int) (k : Int), x = .ref a ∧ y = .int k ∧ SqL K H a (ns.map V.int) ∧ 0 ≤ k ∧ ∀ i, Q (.int i) H
def s_L_pen (P : Program) (w : World) (K : PySem.W.Frag) : Sp := sp1 fun x H Q => ∃ i, x = .int i ∧ ∀ p H', Same H H' → H p = none → PenAt H' p 0 → Q (.ref p) H'
def s_L_draw (P : Program) (w : World) (K : PySem.W.Frag) : Sp := sp2 fun x y H Q => ∃ a n m, x = .ref a ∧ y = .int m ∧ PenAt H a n ∧ n ≤ 1000000 ∧ 1 ≤ m ∧ m < 1073741824 ∧ ∀ d H', SameX a H H' → PenAt H' a (n + 1) → 0 ≤ d → d < m → Q (.int d) H'
def s_L_pick (P : Program) (w : World) (K : PySem.W.Frag) : Sp := sp2 fun x y H Q => ∃ a n, x = .ref a ∧ PenAt H a n ∧ n ≤ 1000000 ∧
  ((∃ b xs, y = .ref b ∧ b ≠ a ∧ (SqL K H b xs ∨ SqT K H b xs) ∧ 1 ≤ xs.length ∧ xs.length ≤ 1000 ∧ ∀ v (i : Nat) H', xs[i]? = some v → SameX a H H' → PenAt H' a (n + 1) → Q v H') ∨
   (∃ z : Str, y = .str z ∧ 1 ≤ z.cps.size ∧ z.cps.size ≤ 1000 ∧ ∀ c (i : Nat) H', z.cps[i]? = some c → SameX a H H' → PenAt H' a (n + 1) → Q (.str ⟨#[c]⟩) H'))
def s_L_beside (P : Program) (w : World) (K : PySem.W.Frag) : Sp := sp2 fun x z H Q => ∃ b c l, x = .ref b ∧ z = .str (ltS l) ∧ CellAt H b c ∧ ∀ p H', Same H H' → CellAt H' p (bes c l) → Q (.ref p) H'
def s_L_tip (P : Program) (w : World) (K : PySem.W.Frag) : Sp := sp2 fun x z H Q => ∃ b y l, x = .ref b ∧ z = .str (ltS l) ∧ LyAt H b y ∧ ∀ p H', Same H H' → LyAt H' p (rol y l) → Q (.ref p) H'
def s_L_free (P : Program) (w : World) (K : PySem.W.Frag) : Sp := sp2 fun x y H Q => ∃ a b fl c, x = .ref a ∧ y = .ref b ∧ FlAt H a fl ∧ CellAt H b c ∧ ∀ p H', Same H H' → H p = none → H' p = some (.lst ((free fl c).map fun l => V.str (ltS l))) → Q (.ref p) H'
def s_L_all_spots (P : Program) (w : World) (K : PySem.W.Frag) : Sp := sp1 fun x H Q => ∃ a fl, x = .ref a ∧ FlAt H a fl ∧ FlOk fl ∧ ∀ p H', Same H H' → H p = none → H' p = some (.lst ((ids (6 + fl.length)).map V.int)) → Q (.ref p) H'
theorem w_L_cell_at {P : Program} {w : World} {K : PySem.W.Frag} {mg : Str → Option Value} {base : Heap} (T : TX K w mg) (D : Dn K mg "_law_cell_at" t_L_cell_at) : Cl P w K mg base 1 "_law_cell_at" (s_L_cell_at P w K) := by
  refine mk_cl D sc_L_cell_at (fun _ _ _ _ _ _ us hl => match us, hl with | [_, _], _ => rfl) (fun vs H Q E h => by obtain ⟨_, _, rfl, _⟩ := h; rfl) (fun f cdv A outer s H vs Q E hr h => ?_)
  obtain ⟨v0, v1, rfl, h⟩ := h
  refine ⟨_, (pss_cons (ps_if (pt_cmpR op_lt (pv 1) (pe_callB call_len_seq (by rfl) T.len (by decide +kernel) (pa_cons (pv 0) pa_nil)) (nomark _)) (pss_one (ps_ret (pe_ix ix_list (pv 0) (pv 1) (fun _ _ => rfl)))) pss_nil)
      (pss_one (ps_ret pe_int))), ?_⟩
  obtain ⟨a, ns, k, rfl, rfl, hs, h0, q⟩ := h
  refine ⟨_, rfl, _, rfl, a, _, rfl, .inl hs, k, _, rfl, rfl, _, rfl, ite2 (fun c => ?_) (fun c => ?_)⟩
  · have hk : k < ns.length := by
      have := of_decide_eq_true c
      rwa [List.length_map] at this
    exact ⟨_, rfl, _, rfl, a, _, k, _, rfl, rfl, hs, (at_int h0 hk).1, q _⟩
  · exact q 0
theorem w_L_pen {P : Program} {w : World} {K : PySem.W.Frag} {mg : Str → Option Value} {base : Heap} (T : TX K w mg) (D : Dn K mg "_law_pen" t_L_pen) : Cl P w K mg base 1 "_law_pen" (s_L_pen P w K) := by
  refine mk_cl D sc_L_pen (fun _ _ _ _ _ _ us hl => match us, hl with | [_], _ => rfl) (fun vs H Q E h => by obtain ⟨_, rfl, _⟩ := h; rfl) (fun f cdv A outer s H vs Q E hr h => ?_)
  obtain ⟨v0, rfl, h⟩ := h
  refine ⟨_, (pss_one (ps_ret (pe_lst (pa_cons (pe_callB (call_max2 rfl) (by rfl) T.max (by decide +kernel) (pa_cons pe_int (pa_cons (pe_op op_sub (pv 0) (pe_op op_pow pe_int pe_int)) pa_nil))) (pa_cons (pe_op op_mod (pv 0) pe_int) (pa_cons pe_int pa_nil)))))), ?_⟩
  obtain ⟨i, rfl, q⟩ := h
  refine ⟨_, rfl, 10, 18, rfl, rfl, ⟨by decide, by decide, by decide⟩, i, _, rfl, rfl, 0, _, rfl, ?_⟩
  refine ⟨_, rfl, i, 1000000007, rfl, rfl, (by show (0 : Int) < 1000000007; decide), two_le _ (by show 3 ≤ 1000; decide), fun p hp => ?_⟩
  refine q p _ (same_new hp) hp ⟨_, _, _, upd_same, ?_, ?_, ?_, ?_, ?_⟩
  · split <;> omega
  · exact Int.emod_nonneg _ (by decide)
  · exact Int.emod_lt_of_pos _ (by decide)
  · exact Int.le_refl _
  · exact Int.le_refl _
theorem w_L_draw {P : Program} {w : World} {K : PySem.W.Frag} {mg : Str → Option Value} {base : Heap} (T : TX K w mg) (D : Dn K mg "_law_draw" t_L_draw) : Cl P w K mg base 1 "_law_draw" (s_L_draw P w K) := by
  refine mk_cl D sc_L_draw (fun _ _ _ _ _ _ us hl => match us, hl with | [_, _], _ => rfl) (fun vs H Q E h => by obtain ⟨_, _, rfl, _⟩ := h; rfl) (fun f cdv A outer s H vs Q E hr h => ?_)
  obtain ⟨v0, v1, rfl, h⟩ := h
  refine ⟨_, (pss_cons (ps_if (pt_cmpR op_gt (pe_ix ix_list (pv 0) pe_int (fun _ _ => rfl)) pe_int (nomark _)) (pss_cons (ps_set (i := 2) sc_L_draw.nd rfl (.inl rfl) (pe_op op_mod (pe_ix ix_list (pv 0) pe_int (fun _ _ => rfl)) (pv 1)))
      (pss_cons (ps_asg (pe_op op_fdiv (pe_ix ix_list (pv 0) pe_int (fun _ _ => rfl)) (pv 1)) (pg_sub (pv 0) pe_int set_list))
      (pss_one (ps_ret (pv 2))))) pss_nil)
      (pss_cons (ps_asg (pe_op op_add (pe_ix ix_list (pv 0) pe_int (fun _ _ => rfl)) pe_int) (pg_sub (pv 0) pe_int set_list))
      (pss_cons (ps_set (i := 3) sc_L_draw.nd rfl (.inl rfl) (pe_op op_mod (pe_op op_mul (pe_op op_add (pe_ix ix_list (pv 0) pe_int (fun _ _ => rfl)) (pe_op op_mul pe_int (pe_ix ix_list (pv 0) pe_int (fun _ _ => rfl)))) (pe_op op_add pe_int (pe_op op_mul pe_int (pe_ix ix_list (pv 0) pe_int (fun _ _ => rfl))))) pe_int))
      (pss_cons (ps_set (i := 3) sc_L_draw.nd rfl (.inl rfl) (pe_op op_mod (pe_op op_add (pe_op op_add (pe_op op_mul (pv 3) (pv 3)) (pe_op op_mul pe_int (pe_ix ix_list (pv 0) pe_int (fun _ _ => rfl)))) pe_int) pe_int))
      (pss_one (ps_ret (pe_op op_mod (pe_op op_fdiv (pe_op op_mod (pe_op op_mul (pv 3) pe_int) pe_int) pe_int) (pv 1)))))))), ?_⟩
  obtain ⟨a, n, m, rfl, rfl, ⟨p, q0, t, ha, hp, hq0, hq1, ht0, ht1⟩, hn, hm1, hm2, q⟩ := h
  refine ⟨_, rfl, a, _, 0, _, rfl, rfl, SqL.of ha, rfl, p, 0, rfl, rfl, _, rfl, ite2 (fun c => ?_) (fun c => ?_)⟩
  · refine ⟨_, rfl, a, _, 0, _, rfl, rfl, SqL.of ha, rfl, _, rfl, p, m, rfl, rfl, (by show (0 : Int) < m; omega), ?_⟩
    refine ⟨_, rfl, a, _, 0, _, rfl, rfl, SqL.of ha, rfl, _, rfl, p, m, rfl, rfl, ⟨by omega, hm2⟩, _, rfl, a, _, 0, 0, rfl, rfl, ha, rfl, ?_⟩
    refine ⟨_, rfl, q _ _ SameX.upd ⟨p / m, q0, t, upd_same, Int.ediv_nonneg hp (by omega), hq0, hq1, ht0, by omega⟩ (Int.emod_nonneg _ (by omega)) (Int.emod_lt_of_pos _ (by omega))⟩
  · refine ⟨_, rfl, a, _, 2, _, rfl, rfl, SqL.of ha, rfl, t, 1, rfl, rfl, _, rfl, a, _, 2, 2, rfl, rfl, ha, rfl, ?_⟩
    have hG : upd H a (.lst (([.int p, .int q0, .int t] : List V).set 2 (.int (t + 1)))) a = some (.lst [.int p, .int q0, .int (t + 1)]) := upd_same
    refine ⟨_, rfl, a, _, 1, _, rfl, rfl, SqL.of hG, rfl, _, rfl, a, _, 2, _, rfl, rfl, SqL.of hG, rfl, 17, t + 1, rfl, rfl, cmul (by decide) (by decide), q0, _, rfl, rfl, _, rfl, a, _, 2, _, rfl, rfl, SqL.of hG, rfl, 2, t + 1, rfl, rfl, cmul (by decide) (by decide), 69621, _, rfl, rfl,
      _, _, rfl, rfl, cmul (by omega) (by omega), _, 2147483647, rfl, rfl, (by show (0 : Int) < 2147483647; decide), ?_⟩
    refine ⟨_, rfl, _, rfl, _, _, rfl, rfl, cmul (Int.emod_nonneg _ (by decide)) (Int.lt_trans (Int.emod_lt_of_pos _ (by decide)) (by decide)), _, rfl, a, _, 2, _, rfl, rfl, SqL.of hG, rfl, 40503, t + 1, rfl, rfl, cmul (by decide) (by decide), _, _, rfl, rfl, _, 5, rfl, rfl, _, 2147483629, rfl, rfl, (by show (0 : Int) < 2147483629; decide), ?_⟩
    refine ⟨_, rfl, _, 48271, rfl, rfl, cmul (Int.emod_nonneg _ (by decide)) (Int.lt_trans (Int.emod_lt_of_pos _ (by decide)) (by decide)), _, 2147483647, rfl, rfl, (by show (0 : Int) < 2147483647; decide), _, 32, rfl, rfl, ⟨by decide, by decide⟩, _, rfl, _, m, rfl, rfl, (by show (0 : Int) < m; omega), ?_⟩
    exact q _ _ SameX.upd ⟨p, q0, t + 1, hG, hp, hq0, hq1, by omega, by omega⟩ (Int.emod_nonneg _ (by omega)) (Int.emod_lt_of_pos _ (by omega))
theorem w_L_pick {P : Program} {w : World} {K : PySem.W.Frag} {mg : Str → Option Value} {base : Heap} (T : TX K w mg) (D : Dn K mg "_law_pick" t_L_pick) (c_L_draw : Cl P w K mg base 1 "_law_draw" (s_L_draw P w K)) : Cl P w K mg base 2 "_law_pick" (s_L_pick P w K) := by
  refine mk_cl D sc_L_pick (fun _ _ _ _ _ _ us hl => match us, hl with | [_, _], _ => rfl) (fun vs H Q E h => by obtain ⟨_, _, rfl, _⟩ := h; rfl) (fun f cdv A outer s H vs Q E hr h => ?_)
  obtain ⟨v0, v1, rfl, h⟩ := h
  refine ⟨_, (pss_one (ps_ret (pe_ix ix_seq (pv 1) (pe_d c_L_draw hr (by decide) (by rfl) (pa_cons (pv 0) (pa_cons (pe_callB call_len (by rfl) T.len (by decide +kernel) (pa_cons (pv 1) pa_nil)) pa_nil))) (fun _ _ => rfl)))), ?_⟩
  obtain ⟨a, n, rfl, hpen, hn, ⟨b, xs, rfl, hba, hs, h1, h2, q⟩ | ⟨z, rfl, h1, h2, q⟩⟩ := h
  · refine ⟨_, rfl, _, rfl, _, rfl, .ref b, xs.length, rfl, ?_, _, _, rfl, a, n, _, rfl, rfl, hpen, hn, by omega, by omega, fun d H' sx hp hd0 hd1 => ?_⟩
    · rcases hs with hs | hs
      · exact .inl ⟨xs, hs, rfl⟩
      · exact .inr ⟨xs, hs, rfl⟩
    · obtain ⟨j, rfl⟩ : ∃ j : Nat, d = j := ⟨d.toNat, by omega⟩
      have hj : j < xs.length := by omega
      have hx : xs[j]? = some xs[j] := List.getElem?_eq_getElem hj
      rcases hs with hs | hs
      · exact .inl ⟨b, xs, j, _, rfl, rfl, sqlX sx hba hs, atI_nat hx, q _ j _ hx sx hp⟩
      · exact .inr (.inl ⟨b, xs, j, _, rfl, rfl, SqT.smT (sx.tup hpen) hs, atI_nat hx, q _ j _ hx sx hp⟩)
  · refine ⟨_, rfl, _, rfl, _, rfl, .str z, z.cps.size, rfl, ⟨by show z.cps.size ≤ _; rw [sizeLine_eq]; omega, rfl⟩, _, _, rfl, a, n, _, rfl, rfl, hpen, hn, by omega, by omega, fun d H' sx hp hd0 hd1 => ?_⟩
    obtain ⟨j, rfl⟩ : ∃ j : Nat, d = j := ⟨d.toNat, by omega⟩
    have hj : j < z.cps.size := by omega
    have hx : z.cps[j]? = some z.cps[j] := Array.getElem?_eq_getElem hj
    exact .inr (.inr ⟨z, j, _, rfl, rfl, by show z.cps.size ≤ _; rw [sizeLine_eq]; omega, atI_nat (by rw [Array.getElem?_toList]; exact hx), q _ j _ hx sx hp⟩)
theorem key_ne {l m : Lt} (h : l ≠ m) : ¬ ((.inr (ltS l) : Key) = .inr (ltS m)) := fun z => h (ltS_inj (Sum.inr.inj z))
def four (a b c d : V) : List (Key × V) := [(.inr (ltS .n), a), (.inr (ltS .s), b), (.inr (ltS .e), c), (.inr (ltS .w), d)]
def pickV (a b c d : V) : Lt → V
  | .n => a
  | .s => b
  | .e => c
  | .w => d
theorem four_at (a b c d : V) (l : Lt) : valV (mergeK [] (four a b c d)) (.inr (ltS l)) = some (pickV a b c d l) := by
  show valV (putK (putK (putK (putK ([] : List (Key × V)) (.inr (ltS .n)) a) (.inr (ltS .s)) b) (.inr (ltS .e)) c) (.inr (ltS .w)) d) (.inr (ltS l)) = _
  rw [valV_put, valV_put, valV_put, valV_put]
  cases l with
  | n => rw [if_neg (key_ne (by decide)), if_neg (key_ne (by decide)), if_neg (key_ne (by decide)), if_pos rfl] <;> rfl
  | s => rw [if_neg (key_ne (by decide)), if_neg (key_ne (by decide)), if_pos rfl] <;> rfl
  | e => rw [if_neg (key_ne (by decide)), if_pos rfl] <;> rfl
  | w => rw [if_pos rfl] <;> rfl
theorem dict_end {H G : Hp} {d : Addr} {o o' : HO} (hd : H d = none) (s : Same (upd H d o) G) (hn : ∀ xs, o ≠ .tup xs) : Same H (upd G d o') ∧ TupS G (upd G d o') ∧ G d = some o :=
  ⟨same_upd ((same_new hd).trans s) hd, TupS.upd fun xs e => by rw [s _ _ upd_same] at e; exact hn xs (Option.some.inj e), s _ _ upd_same⟩
theorem tups_of {H : Hp} {d : Addr} {kvs : List (Key × V)} {o' : HO} (h : H d = some (.dK kvs)) : TupS H (upd H d o') := TupS.upd fun xs e => by rw [h] at e; cases e
theorem cell_of {H : Hp} {p : Addr} {c : Cell} {l : Lt} {x y : Int} (h : H p = some (.tup [.int x, .int y])) (e : bes c l = (x, y)) : CellAt H p (bes c l) := by
  unfold CellAt
  rw [e]
  exact h
theorem w_L_beside {P : Program} {w : World} {K : PySem.W.Frag} {mg : Str → Option Value} {base : Heap} (T : TX K w mg) (D : Dn K mg "_law_beside" t_L_beside) : Cl P w K mg base 1 "_law_beside" (s_L_beside P w K) := by
  refine mk_cl D sc_L_beside (fun _ _ _ _ _ _ us hl => match us, hl with | [_, _], _ => rfl) (fun vs H Q E h => by obtain ⟨_, _, rfl, _⟩ := h; rfl) (fun f cdv A outer s H vs Q E hr h => ?_)
  obtain ⟨v0, v1, rfl, h⟩ := h
  refine ⟨_, (pss_cons (ps_asg (pv 0) (pg_tup rfl (pgs_cons (pg_name (i := 2) sc_L_beside.nd rfl (.inl rfl)) (pgs_cons (pg_name (i := 3) sc_L_beside.nd rfl (.inl rfl)) pgs_nil))))
      (pss_one (ps_ret (pe_dget (un1 hr) (pe_disp (pps_cons pe_str (pe_tup (pa_cons (pv 2) (pa_cons (pe_op op_add (pv 3) pe_int) pa_nil))) (pps_cons pe_str (pe_tup (pa_cons (pv 2) (pa_cons (pe_op op_sub (pv 3) pe_int) pa_nil))) (pps_cons pe_str (pe_tup (pa_cons (pe_op op_add (pv 2) pe_int) (pa_cons (pv 3) pa_nil))) (pps_cons pe_str (pe_tup (pa_cons (pe_op op_sub (pv 2) pe_int) (pa_cons (pv 3) pa_nil))) pps_nil)))) rfl rfl (fun z => nomatch z) (Nat.le_of_ble_eq_true rfl)) (pv 1) (fun _ _ => rfl))))), ?_⟩
  obtain ⟨b, c, l, rfl, rfl, hc, q⟩ := h
  refine ⟨_, rfl, b, _, rfl, SqT.of hc, rfl, _, _, rfl, _, _, rfl, rfl, ?_⟩
  refine fun d hd => ⟨_, rfl, _, rfl, _, _, rfl, rfl, two_le _ (by show 2 ≤ 1000; decide), fun p1 hp1 => ⟨_, rfl, _, rfl, _, _, rfl, rfl, two_le _ (by show 2 ≤ 1000; decide), fun p2 hp2 => ⟨_, rfl, _, _, rfl, rfl, _, rfl, two_le _ (by show 2 ≤ 1000; decide), fun p3 hp3 =>
    ⟨_, rfl, _, _, rfl, rfl, _, rfl, two_le _ (by show 2 ≤ 1000; decide), fun p4 hp4 => ?_⟩⟩⟩⟩
  have t1 := same_new (o := .tup [.int c.1, .int (c.2 + 1)]) hp1
  have t2 := same_new (o := .tup [.int c.1, .int (c.2 - 1)]) hp2
  have t3 := same_new (o := .tup [.int (c.1 + 1), .int c.2]) hp3
  have t4 := same_new (o := .tup [.int (c.1 - 1), .int c.2]) hp4
  obtain ⟨sF, tF, hdG⟩ := dict_end (o' := .dK (mergeK [] (four (.ref p1) (.ref p2) (.ref p3) (.ref p4)))) hd (t1.trans (t2.trans (t3.trans t4))) (fun xs z => nomatch z)
  have a1 := tF _ _ (t4 _ _ (t3 _ _ (t2 _ _ upd_same)))
  have a2 := tF _ _ (t4 _ _ (t3 _ _ upd_same))
  have a3 := tF _ _ (t4 _ _ upd_same)
  have a4 := tF _ _ upd_same
  refine ⟨hdG, four (.ref p1) (.ref p2) (.ref p3) (.ref p4), ?_, (by show 4 ≤ 15; decide), _, rfl, d, _, rfl, .inl ⟨_, .inr (ltS l), .inl upd_same, rfl, (four_at _ _ _ _ l).symm⟩, ?_⟩
  · show [(V.str "n", _), (V.str "s", _), (V.str "e", _), (V.str "w", _)] = [(V.str (ltS .n), _), (V.str (ltS .s), _), (V.str (ltS .e), _), (V.str (ltS .w), _)]
    rw [ltS_n, ltS_s, ltS_e, ltS_w]
  · cases l with
    | n => exact q p1 _ sF (cell_of a1 (by show ((c.1 + 0, c.2 + 1) : Int × Int) = _; rw [Int.add_zero]))
    | s => exact q p2 _ sF (cell_of a2 (by show ((c.1 + 0, c.2 + -1) : Int × Int) = _; rw [Int.add_zero]; rfl))
    | e => exact q p3 _ sF (cell_of a3 (by show ((c.1 + 1, c.2 + 0) : Int × Int) = _; rw [Int.add_zero]))
    | w => exact q p4 _ sF (cell_of a4 (by show ((c.1 + -1, c.2 + 0) : Int × Int) = _; rw [Int.add_zero]; rfl))
def three (a b c : V) : List (Key × V) := [(.inr (ltS .n), a), (.inr (ltS .s), b), (.inr (ltS .e), c)]
theorem w_L_tip {P : Program} {w : World} {K : PySem.W.Frag} {mg : Str → Option Value} {base : Heap} (T : TX K w mg) (D : Dn K mg "_law_tip" t_L_tip) : Cl P w K mg base 1 "_law_tip" (s_L_tip P w K) := by
  refine mk_cl D sc_L_tip (fun _ _ _ _ _ _ us hl => match us, hl with | [_, _], _ => rfl) (fun vs H Q E h => by obtain ⟨_, _, rfl, _⟩ := h; rfl) (fun f cdv A outer s H vs Q E hr h => ?_)
  obtain ⟨v0, v1, rfl, h⟩ := h
  refine ⟨_, (pss_cons (ps_asg (pv 0) (pg_tup rfl (pgs_cons (pg_name (i := 2) sc_L_tip.nd rfl (.inl rfl)) (pgs_cons (pg_name (i := 3) sc_L_tip.nd rfl (.inl rfl)) (pgs_cons (pg_name (i := 4) sc_L_tip.nd rfl (.inl rfl)) pgs_nil)))))
      (pss_cons (ps_set (i := 5) sc_L_tip.nd rfl (.inl rfl) (pe_disp (pps_cons pe_str (pe_tup (pa_cons (pv 3) (pa_cons (pe_op op_sub pe_int (pv 2)) (pa_cons (pv 4) pa_nil)))) (pps_cons pe_str (pe_tup (pa_cons (pe_op op_sub pe_int (pv 3)) (pa_cons (pv 2) (pa_cons (pv 4) pa_nil)))) (pps_cons pe_str (pe_tup (pa_cons (pv 4) (pa_cons (pv 3) (pa_cons (pe_op op_sub pe_int (pv 2)) pa_nil)))) pps_nil))) rfl rfl (fun z => nomatch z) (Nat.le_of_ble_eq_true rfl)))
      (pss_cons (ps_asg (pe_tup (pa_cons (pe_op op_sub pe_int (pv 4)) (pa_cons (pv 3) (pa_cons (pv 2) pa_nil)))) (pg_sub (pv 5) pe_str (set_dict (un1 hr))))
      (pss_one (ps_ret (pe_dget (un1 hr) (pv 5) (pv 1) (fun _ _ => rfl))))))), ?_⟩
  obtain ⟨b, y, l, rfl, rfl, hy, q⟩ := h
  refine ⟨_, rfl, b, _, rfl, SqT.of hy, rfl, _, _, rfl, _, _, rfl, _, _, rfl, rfl, ?_⟩
  refine fun d hd => ⟨_, rfl, _, rfl, 5, _, rfl, rfl, _, rfl, two_le _ (by show 3 ≤ 1000; decide), fun p1 hp1 => ⟨_, rfl, 5, _, rfl, rfl, _, rfl, _, rfl, two_le _ (by show 3 ≤ 1000; decide), fun p2 hp2 => ⟨_, rfl, _, rfl, _, rfl, 5, _, rfl, rfl, two_le _ (by show 3 ≤ 1000; decide), fun p3 hp3 => ?_⟩⟩⟩
  have t1 := same_new (o := .tup [.int y.2.1, .int (5 - y.1), .int y.2.2]) hp1
  have t2 := same_new (o := .tup [.int (5 - y.2.1), .int y.1, .int y.2.2]) hp2
  have t3 := same_new (o := .tup [.int y.2.2, .int y.2.1, .int (5 - y.1)]) hp3
  obtain ⟨sF, tF, hdG⟩ := dict_end (o' := .dK (mergeK [] (three (.ref p1) (.ref p2) (.ref p3)))) hd (t1.trans (t2.trans t3)) (fun xs z => nomatch z)
  have a1 := tF _ _ (t3 _ _ (t2 _ _ upd_same))
  have a2 := tF _ _ (t3 _ _ upd_same)
  have a3 := tF _ _ upd_same
  refine ⟨hdG, three (.ref p1) (.ref p2) (.ref p3), ?_, (by show 3 ≤ 15; decide), ?_⟩
  · show [(V.str "n", _), (V.str "s", _), (V.str "e", _)] = [(V.str (ltS .n), _), (V.str (ltS .s), _), (V.str (ltS .e), _)]
    rw [ltS_n, ltS_s, ltS_e]
  refine ⟨_, rfl, 5, _, rfl, rfl, _, rfl, _, rfl, two_le _ (by show 3 ≤ 1000; decide), fun p4 hp4 => ?_⟩
  have t4 := same_new (o := .tup [.int (5 - y.2.2), .int y.2.1, .int y.1]) hp4
  have hd4 := t4 _ _ upd_same
  have l3 := length_mergeK (three (.ref p1) (.ref p2) (.ref p3)) []
  have l3' : (mergeK [] (three (.ref p1) (.ref p2) (.ref p3))).length ≤ 0 + 3 := l3
  refine ⟨_, rfl, d, _, rfl, .inl ⟨_, .inr "w", hd4, rfl, (by rw [sizeLine_eq]; omega), rfl⟩, ?_⟩
  have tE := tups_of (o' := .dK (putK (mergeK [] (three (.ref p1) (.ref p2) (.ref p3))) (.inr "w") (.ref p4))) hd4
  have sE := same_upd (o := .dK (putK (mergeK [] (three (.ref p1) (.ref p2) (.ref p3))) (.inr "w") (.ref p4))) (sF.trans t4) hd
  refine ⟨_, rfl, _, rfl, d, _, rfl, .inl ⟨_, .inr (ltS l), .inl upd_same, rfl, (?_ : some (pickV (.ref p1) (.ref p2) (.ref p3) (.ref p4) l) = _)⟩, ?_⟩
  · rw [← ltS_w]
    exact (four_at _ _ _ _ l).symm
  · cases l with
    | n => exact q p1 _ sE (tE _ _ (t4 _ _ a1))
    | s => exact q p2 _ sE (tE _ _ (t4 _ _ a2))
    | e => exact q p3 _ sE (tE _ _ (t4 _ _ a3))
    | w => exact q p4 _ sE (tE _ _ upd_same)
def freeV (fl : List Cell) (c : Cell) (v : V) : Bool := match v with
  | .str z => lts.any fun l => decide (ltS l = z) && decide (bes c l ∈ fl)
  | _ => false
theorem freeV_at (fl : List Cell) (c : Cell) (l : Lt) : freeV fl c (.str (ltS l)) = decide (bes c l ∈ fl) := by
  show (lts.any fun m => decide (ltS m = ltS l) && decide (bes c m ∈ fl)) = _
  by_cases e : bes c l ∈ fl
  · rw [decide_eq_true e, List.any_eq_true]
    exact ⟨l, mem_lts l, by simp [e]⟩
  · rw [decide_eq_false e, List.any_eq_false]
    intro m _ z
    rw [Bool.and_eq_true, decide_eq_true_eq, decide_eq_true_eq] at z
    exact e (ltS_inj z.1 ▸ z.2)
theorem w_L_free {P : Program} {w : World} {K : PySem.W.Frag} {mg : Str → Option Value} {base : Heap} (T : TX K w mg) (D : Dn K mg "_law_free" t_L_free) (c_L_beside : Cl P w K mg base 1 "_law_beside" (s_L_beside P w K)) : Cl P w K mg base 2 "_law_free" (s_L_free P w K) := by
  refine mk_cl D sc_L_free (fun _ _ _ _ _ _ us hl => match us, hl with | [_, _], _ => rfl) (fun vs H Q E h => by obtain ⟨_, _, rfl, _⟩ := h; rfl) (fun f cdv A outer s H vs Q E hr h => ?_)
  obtain ⟨v0, v1, rfl, h⟩ := h
  refine ⟨_, (pss_one (ps_ret (pe_lc (own := [("_law_letter", 2)]) (g := (gName 2)) rfl sc_L_free.nd (pi_str pe_str) (blkOk_by (N := N_L_free) (sc := defScope t_L_free) (by decide +kernel)) (fun _ _ _ _ _ => pg_name (i := 2) sc_L_free.nd rfl (Or.inl rfl)) (fun _ _ _ _ _ => pts_one (pt_cmpR (op_inFl (un9 hr)) (pe_d c_L_beside hr (by decide) (by rfl) (pa_cons (pv 1) (pa_cons (pv 2) pa_nil))) (pv 0) (by rfl))) (fun _ _ _ _ _ => (pv 2))))), ?_⟩
  obtain ⟨a, b, fl, c, rfl, rfl, hf, hc, q⟩ := h
  refine ⟨_, (congrArg V.str rowS_lts.symm : V.str "ensw" = V.str (rowS lts)), fun D hD => ?_⟩
  refine lc_filt (walk_str (z := rowS lts)) (lts.map fun l => V.str (ltS l)) (freeV fl c) rfl (two_le _ (by decide)) hD (fun _ _ => True.intro) (fun i x v H2 H3 R Rn hi hv s2 hY q3 q4 => ?_) (fun H2 s2 e => ?_)
  · obtain ⟨rfl, sg, hsg, rfl⟩ := hY
    obtain ⟨l, e1, e2⟩ := row_sign hsg
    rw [List.getElem?_map, e1] at hv
    obtain rfl : V.str (ltS l) = v := Option.some.inj hv
    rw [freeV_at] at q3 q4
    rw [e2]
    refine ⟨rfl, _, rfl, _, rfl, _, _, rfl, b, c, l, rfl, rfl, hc.same s2, fun p' H4 s4 hp' => ?_⟩
    refine ⟨_, rfl, p', a, _, fl, rfl, rfl, hp', hf.same (s2.trans s4), _, rfl, ite2 (fun cc => ?_) (fun cc => ?_)⟩
    · exact ⟨_, rfl, q3 cc _ s4⟩
    · exact q4 (Bool.eq_false_iff.mpr cc) _ s4
  · refine q D _ s2 hD ?_
    rw [e, List.filter_map]
    have : (freeV fl c ∘ fun l => V.str (ltS l)) = fun l => decide (bes c l ∈ fl) := funext fun l => freeV_at fl c l
    rw [this]
    rfl
theorem w_L_all_spots {P : Program} {w : World} {K : PySem.W.Frag} {mg : Str → Option Value} {base : Heap} (T : TX K w mg) (D : Dn K mg "_law_all_spots" t_L_all_spots) : Cl P w K mg base 1 "_law_all_spots" (s_L_all_spots P w K) := by
  refine mk_cl D sc_L_all_spots (fun _ _ _ _ _ _ us hl => match us, hl with | [_], _ => rfl) (fun vs H Q E h => by obtain ⟨_, rfl, _⟩ := h; rfl) (fun f cdv A outer s H vs Q E hr h => ?_)
  obtain ⟨v0, rfl, h⟩ := h
  refine ⟨_, (pss_one (ps_ret (pe_listRg rfl (by rfl) T.list (prg_1 (by rfl) T.range (pe_op op_add pe_int (pe_callB call_len_seq (by rfl) T.len (by decide +kernel) (pa_cons (pv 0) pa_nil))))))), ?_⟩
  obtain ⟨a, fl, rfl, hf, ok, q⟩ := h
  have h5 := ok.le
  obtain ⟨as, hs, hc, hl⟩ := hf.sq (K := K)
  refine ⟨_, rfl, a, _, rfl, .inr hs, 6, _, rfl, rfl, _, rfl, RgOk.of_le (by decide) (by rw [List.length_map]; omega) (by decide) (by omega), fun t ht => ?_⟩
  have e6 : (6 + (((as.map V.ref).length : Nat) : Int)) = ((6 + fl.length : Nat) : Int) := by rw [List.length_map]; omega
  refine q t _ (same_new ht) ht ?_
  rw [upd_same, e6, rgV_ids]
end TM
end
/-! ## TW9 -/
section
namespace TM
open PySem PySem.Spec PyProof.Rows L2
theorem ints_dp {K : PySem.W.Frag} {H : Hp} : ∀ ns : List Int, DpAll K H (ns.map V.int) (ns.map PyData.int)
  | [] => .nil
  | n :: ns => .cons (.int n) (ints_dp ns)
theorem ints_lay : ∀ ns : List Int, PyData.canLayAll0 (ns.map PyData.int) = true
  | [] => by simp [PyData.canLayAll0]
  | n :: ns => by simp [PyData.canLayAll0, PyData.canLay0, ints_lay ns]
theorem ints_depth : ∀ ns : List Int, PyData.depthAll (ns.map PyData.int) ≤ 60
  | [] => by simp [PyData.depthAll]
  | n :: ns => by
    have := ints_depth ns
    simp only [List.map_cons, PyData.depthAll, PyData.depth]
    omega
theorem ints_eqv : ∀ ns : List Int, PyData.eqvAll (ns.map PyData.int) (ns.map PyData.int) = true
  | [] => by simp [PyData.eqvAll]
  | n :: ns => by simp [PyData.eqvAll, PyData.eqv, ints_eqv ns]
theorem IntsAt.sq {K : PySem.W.Frag} {H : Hp} {a : Addr} {ns : List Int} (h : IntsAt H a ns) : SqT K H a (ns.map V.int) := let ⟨o, _, e⟩ := h; .inl (.inr ⟨o, e⟩)
theorem IntsAt.same {H H' : Hp} {a : Addr} {ns : List Int} (s : Same H H') (h : IntsAt H a ns) : IntsAt H' a ns := let ⟨o, d, e⟩ := h; ⟨o, d, s _ _ e⟩
theorem IntsAt.dp {K : PySem.W.Frag} {H : Hp} {a : Addr} {ns : List Int} (h : IntsAt H a ns) : Dp K H (.ref a) (.tuple (ns.map PyData.int)) := .tup h.sq (ints_dp ns)
theorem ints_shaped (ns : List Int) : SeqAt.shaped (.tuple (ns.map PyData.int)) = true := shaped_tuple (ints_lay ns) (ints_depth ns)
theorem ints_same {K : PySem.W.Frag} {H : Hp} {a b : Addr} {ns : List Int} {Q : VK} (ha : IntsAt H a ns) (hb : IntsAt H b ns) (q : Q (.bl true) H) : rEqD K (.ref a) (.ref b) H Q :=
  ⟨_, _, ha.dp, hb.dp, ints_shaped ns, ints_shaped ns, by
    have e : PyData.eqv (.tuple (ns.map PyData.int)) (.tuple (ns.map PyData.int)) = true := by simp only [PyData.eqv]; exact ints_eqv ns
    rw [e]
    exact q⟩
theorem ints_same' {K : PySem.W.Frag} {H : Hp} {a b : Addr} {ns : List Int} {Q : VK} (ha : IntsAt H a ns) (hb : IntsAt H b ns) (q : Q (.bl false) H) : rNeD K (.ref a) (.ref b) H Q :=
  ⟨_, _, ha.dp, hb.dp, ints_shaped ns, ints_shaped ns, by
    have e : PyData.eqv (.tuple (ns.map PyData.int)) (.tuple (ns.map PyData.int)) = true := by simp only [PyData.eqv]; exact ints_eqv ns
    rw [e]
    exact q⟩
theorem round_trip {fl : List Cell} {st : Cell × Ly} {r : List Lt} {k : Int} (so : StOk fl st) (hl : lets fl st.1 r) (hk : InS fl k) : mvs fl (st.1, st.2, k) (r ++ undo r) = some (st.1, st.2, k) := by
  obtain ⟨s', h⟩ := lets_mvs (p := (st.1, st.2, k)) hl
  rw [mvs_append, h]
  exact mvs_undo (vp_of so hk) h
def s_L_right (P : Program) (w : World) (K : PySem.W.Frag) : Sp := sp4 fun x y z v H Q => ∃ a b fl st s r, x = .ref a ∧ y = .ref b ∧ z = .int s ∧ v = .str (rowS r) ∧ FlAt H a fl ∧ FlOk fl ∧ StAt H b st ∧ StOk fl st ∧ InS fl s ∧ lets fl st.1 r ∧ r.length ≤ 1440 ∧ ∀ H', Same H H' → Q (.bl true) H'
set_option maxHeartbeats 1000000 in
theorem w_L_right {P : Program} {w : World} {K : PySem.W.Frag} {mg : Str → Option Value} {base : Heap} (T : TX K w mg) (D : Dn K mg "_law_right" t_L_right) (c_stand_behind : Cl P w K mg base 6 "stand_behind" (s_stand_behind P w K)) (c_exchange : Cl P w K mg base 8 "exchange" (s_exchange P w K)) (c_undoing : Cl P w K mg base 8 "undoing" (s_undoing P w K)) (c_shows_bring : Cl P w K mg base 8 "shows_bring" (s_shows_bring P w K)) (c_L_all_spots : Cl P w K mg base 1 "_law_all_spots" (s_L_all_spots P w K)) (c_may_come : Cl P w K mg base 7 "may_come" (s_may_come P w K)) (c_still : Cl P w K mg base 7 "still" (s_still P w K)) : Cl P w K mg base 9 "_law_right" (s_L_right P w K) := by
  refine mk_cl D sc_L_right (fun _ _ _ _ _ _ us hl => match us, hl with | [_, _, _, _], _ => rfl) (fun vs H Q E h => by obtain ⟨_, _, _, _, rfl, _⟩ := h; rfl) (fun f cdv A outer s H vs Q E hr h => ?_)
  obtain ⟨v0, v1, v2, v3, rfl, h⟩ := h
  refine ⟨_, (pss_cons (ps_par (i := 4) (j := 5) rfl sc_L_right.nd rfl rfl (by decide) rfl rfl (pa_cons (pe_d c_stand_behind hr (by decide) (by rfl) (pa_cons (pv 0) (pa_cons (pe_ix ix_tup (pv 1) pe_int (fun _ _ => rfl)) (pa_cons (pe_ix ix_tup (pv 1) pe_int (fun _ _ => rfl)) (pa_cons (pv 3) pa_nil))))) (pa_cons (pe_ix ix_tup (pe_d c_exchange hr (by decide) (by rfl) (pa_cons (pv 0) (pa_cons (pv 1) (pa_cons (pv 3) pa_nil)))) (pv 2) (fun _ _ => rfl)) pa_nil)) (by rfl))
      (pss_cons (ps_set (i := 6) sc_L_right.nd rfl (.inr rfl) (pe_d c_undoing hr (by decide) (by rfl) (pa_cons (pv 0) (pa_cons (pv 1) (pa_cons (pv 3) pa_nil)))))
      (pss_cons (ps_if ((pw_or (pt_not (pt_val (pe_d c_shows_bring hr (by decide) (by rfl) (pa_cons (pv 0) (pa_cons (pv 1) (pa_cons (pv 2) (pa_cons (pv 5) (pa_cons (pe_tup (pa_cons pe_str (pa_cons (pv 3) pa_nil))) pa_nil)))))))) (pw_or1 (pt_cmpR op_gt (pe_callB call_len (by rfl) T.len (by decide +kernel) (pa_cons (pv 6) pa_nil)) (pe_op op_mul pe_int (pe_callB call_len (by rfl) T.len (by decide +kernel) (pa_cons (pv 3) pa_nil))) (nomark _))))).pt (pss_one (ps_ret pe_bl)) pss_nil)
      (pss_cons (ps_if (pt_not (pt_val (pe_d c_shows_bring hr (by decide) (by rfl) (pa_cons (pv 0) (pa_cons (pv 4) (pa_cons (pv 5) (pa_cons (pv 2) (pa_cons (pe_tup (pa_cons pe_str (pa_cons (pv 6) pa_nil))) pa_nil)))))))) (pss_one (ps_ret pe_bl)) pss_nil)
      (pss_cons (ps_if (pt_not (pt_val (pe_callB (cr_all rfl) (by rfl) T.all (by decide +kernel) (pa_cons (pe_lc (own := [("_law_one", 7)]) (g := (gName 7)) rfl sc_L_right.nd (pi_list (pe_d c_L_all_spots hr (by decide) (by rfl) (pa_cons (pv 0) pa_nil))) (blkOk_by (N := N_L_right) (sc := defScope t_L_right) (by decide +kernel)) (fun _ _ _ _ _ => pg_name (i := 7) sc_L_right.nd rfl (Or.inl rfl)) (fun _ _ _ _ _ => pts_nil) (fun _ _ _ _ _ => (pe_d c_shows_bring hr (by decide) (by rfl) (pa_cons (pv 0) (pa_cons (pv 1) (pa_cons (pv 7) (pa_cons (pv 7) (pa_cons (pe_tup (pa_cons pe_str (pa_cons (pe_op op_add_str (pv 3) (pv 6)) pa_nil))) pa_nil)))))))) pa_nil)))) (pss_one (ps_ret pe_bl)) pss_nil)
      (pss_cons (ps_if (pt_cmpR (op_neD hr.units) (pe_d c_may_come hr (by decide) (by rfl) (pa_cons (pv 0) (pa_cons (pv 4) (pa_cons (pv 5) pa_nil)))) (pe_d c_may_come hr (by decide) (by rfl) (pa_cons (pv 0) (pa_cons (pv 1) (pa_cons (pv 2) pa_nil)))) (nomark _)) (pss_one (ps_ret pe_bl)) pss_nil)
      (pss_one (ps_ret (pe_cmpR (op_eqD hr.units) (pe_d c_still hr (by decide) (by rfl) (pa_cons (pv 0) (pa_cons (pv 4) pa_nil))) (pe_d c_still hr (by decide) (by rfl) (pa_cons (pv 0) (pa_cons (pv 1) pa_nil))) (nomark _)))))))))), ?_⟩
  obtain ⟨a, b, fl, st, s, r, rfl, rfl, rfl, rfl, hf, ok, hst, so, hs, hl, hz, q⟩ := h
  have vp := vp_of so hs
  -- what the exchange tells
  obtain ⟨t, ht1, ht2⟩ := exch_get so.ly hl hs.1 hs.2
  have vq : VP fl ((sby st r).1, (sby st r).2, t) := vp.mvs ht2
  have ht0 : InS fl t := by
    refine ⟨?_, vq.hi⟩
    obtain ⟨i, _, e⟩ := List.mem_map.mp (List.mem_of_getElem? ht1)
    rw [← e]
    exact Int.natCast_nonneg _
  have so2 : StOk fl (sby st r) := ⟨vq.cell, vq.ly⟩
  have back : mvs fl ((sby st r).1, (sby st r).2, t) (undo r) = some (st.1, st.2, s) := mvs_undo vp ht2
  have hu := undo_length r
  obtain ⟨pc, pl, h0, hc, hy⟩ := id hst
  refine ⟨_, rfl, _, rfl, b, _, 0, _, rfl, rfl, SqT.of h0, rfl, _, rfl, b, _, 1, _, rfl, rfl, SqT.of h0, rfl, _, rfl, _, _, _, _, rfl, a, pc, pl, fl, st.1, st.2, r, rfl, rfl, rfl, rfl, hf, ok, hc, hy, so, hl, by omega, fun p1 G1 g1 hp1 => ?_⟩
  refine ⟨_, rfl, _, rfl, _, rfl, _, _, _, rfl, a, b, fl, st, r, rfl, rfl, rfl, hf.same g1, ok, hst.same g1, so, hl, by omega, fun p2 G2 g2 hp2 => ?_⟩
  have g12 := g1.trans g2
  have hs' : s = ((s.toNat : Nat) : Int) := by have := hs.1; omega
  refine ⟨_, rfl, p2, _, s, _, rfl, rfl, hp2.sq, (by rw [hs']; exact atI_nat (by rw [List.getElem?_map, ht1]; rfl)), _, _, rfl, ?_⟩
  refine ⟨_, rfl, _, rfl, _, rfl, _, _, _, rfl, a, b, fl, st, r, rfl, rfl, rfl, hf.same g12, ok, hst.same g12, so, hl, by omega, fun G3 g3 => ?_⟩
  have g13 := g12.trans g3
  -- the drawn row brings the spot
  refine ⟨_, rfl, _, rfl, _, rfl, _, rfl, _, rfl, two_le _ (by show 2 ≤ 1000; decide), fun t1 ht1' => ?_⟩
  have g4 := same_new (o := .tup [.str "row", .str (rowS r)]) ht1'
  have g14 := g13.trans g4
  refine ⟨_, _, _, _, _, rfl, a, b, t1, fl, st, s, t, r, _, rfl, rfl, rfl, rfl, rfl, upd_same, hf.same g14, ok, hst.same g14, so, hs, ht0, by omega, ht2, rfl, fun G5 g5 => ⟨true, rfl, ?_⟩⟩
  have g15 := g14.trans g5
  have lr : ∀ u : List Lt, u.length ≤ 10000 → (rowS u).length ≤ sizeLine ∧ u.length = (rowS u).length := fun u h => by
    rw [rowS_length, sizeLine_eq]
    exact ⟨by omega, rfl⟩
  refine ⟨_, rfl, _, _, rfl, lr (undo r) (by omega), _, rfl, _, _, rfl, lr r (by omega), 3, _, rfl, rfl, cmul (by decide) (by decide), _, _, rfl, rfl, _, rfl, ?_⟩
  refine ite2 (fun c => ?_) (fun _ => ?_)
  · have c' := of_decide_eq_true c
    exfalso
    omega
  have hst2 : StAt G5 p1 (sby st r) := hp1.same (g2.trans (g3.trans (g4.trans g5)))
  -- behind it the undoing brings it back
  refine ⟨_, rfl, _, rfl, _, rfl, _, rfl, _, rfl, two_le _ (by show 2 ≤ 1000; decide), fun t2 ht2' => ?_⟩
  have g6 := same_new (o := .tup [.str "row", .str (rowS (undo r))]) ht2'
  have g16 := g15.trans g6
  refine ⟨_, _, _, _, _, rfl, a, p1, t2, fl, sby st r, t, s, undo r, _, rfl, rfl, rfl, rfl, rfl, upd_same, hf.same g16, ok, hst2.same g6, so2, ht0, hs, by omega, back, rfl, fun G7 g7 => ⟨true, rfl, ?_⟩⟩
  have g17 := g16.trans g7
  -- a row and its undoing bring every spot to itself
  refine ⟨_, rfl, _, rfl, a, fl, rfl, hf.same g17, ok, fun p3 G8 g8 hn8 hp3 => ?_⟩
  have g18 := g17.trans g8
  have h5 := ok.le
  refine ⟨p3, rfl, ⟨_, SqL.of hp3⟩, fun D hD => ?_⟩
  refine lc_map (walk_list (xs := (ids (6 + fl.length)).map V.int)) (yes (6 + fl.length)) (by rw [yes_length, List.length_map, ids_length]) (by rw [List.length_map, ids_length]; exact two_le _ (by omega)) hD (fun H2 s2 => SqL.of (s2 _ _ hp3)) (fun i x y H2 H3 R hi hy2 s2 hY q3 => ?_) (fun G9 s9 e9 => ?_)
  · obtain ⟨rfl, hx⟩ := hY
    cases yes_get hy2
    rw [List.length_map, ids_length] at hi
    rw [List.getElem?_map, ids_get hi] at hx
    obtain rfl : V.int (i : Nat) = x := Option.some.inj hx
    have hk : InS fl (i : Nat) := ⟨by omega, by omega⟩
    refine ⟨rfl, _, rfl, _, rfl, _, rfl, _, rfl, _, rfl, _, rfl, _, _, rfl, rfl, ?_, two_le _ (by show 2 ≤ 1000; decide), fun t3 ht3 => ?_⟩
    · rw [rowS_length, rowS_length, sizeLine_eq]
      omega
    rw [rowS_append]
    have s3 := same_new (o := .tup [.str "row", .str (rowS (r ++ undo r))]) ht3
    have g20 := g18.trans (s2.trans s3)
    refine ⟨_, _, _, _, _, rfl, a, b, t3, fl, st, (i : Nat), (i : Nat), r ++ undo r, _, rfl, rfl, rfl, rfl, rfl, upd_same, hf.same g20, ok, hst.same g20, so, hk, hk, ?_, round_trip so hl hk, rfl, fun G10 g10 => q3 _ (s3.trans g10)⟩
    rw [List.length_append]
    omega
  refine ⟨D, List.replicate _ true, rfl, SqL.of e9, ?_⟩
  rw [yes_all]
  refine ⟨true, rfl, ?_⟩
  have g19 := g18.trans s9
  have hst9 : StAt G9 p1 (sby st r) := hst2.same (g6.trans (g7.trans (g8.trans s9)))
  -- the mark may come to just the same spots
  have rch : Rch fl (st.1, st.2, s) ((sby st r).1, (sby st r).2, t) := ⟨r, ht2⟩
  refine ⟨_, rfl, _, rfl, _, rfl, _, _, _, rfl, a, p1, fl, sby st r, t, rfl, rfl, rfl, hf.same g19, ok, hst9, so2, ht0, fun pa Ga ns1 ga i1 w1 m1 l1 => ?_⟩
  have g20 := g19.trans ga
  refine ⟨_, rfl, _, rfl, _, rfl, _, _, _, rfl, a, b, fl, st, s, rfl, rfl, rfl, hf.same g20, ok, hst.same g20, so, hs, fun pb Gb ns2 gb i2 w2 m2 l2 => ?_⟩
  have g21 := g20.trans gb
  obtain rfl : ns1 = ns2 := rising_ext w1 w2 fun k => by rw [m1 k, m2 k]; exact May.iff vp rch k
  refine ints_same' (i1.same gb) i2 ⟨_, rfl, ?_⟩
  -- the same spots stay
  have vn : VP fl (st.1, st.2, -1) := ⟨so.cell, so.ly, Int.le_refl _, by show (-1 : Int) < 6 + (fl.length : Nat); omega⟩
  obtain ⟨s', hn⟩ := lets_mvs (p := (st.1, st.2, -1)) hl
  have hs1 : s' = -1 := mvs_no (p := (st.1, st.2, -1)) so.ly rfl hn
  subst hs1
  have rn : Rch fl (st.1, st.2, -1) ((sby st r).1, (sby st r).2, -1) := ⟨r, hn⟩
  refine ⟨_, rfl, _, rfl, _, _, rfl, a, p1, fl, sby st r, rfl, rfl, hf.same g21, ok, hst9.same (ga.trans gb), so2, fun pc' Gc ms1 gc j1 x1 y1 k1 => ?_⟩
  have g22 := g21.trans gc
  refine ⟨_, rfl, _, rfl, _, _, rfl, a, b, fl, st, rfl, rfl, hf.same g22, ok, hst.same g22, so, fun pd' Gd ms2 gd j2 x2 y2 k2 => ?_⟩
  obtain rfl : ms1 = ms2 := rising_ext x1 x2 fun k => by
    rw [y1 k, y2 k]
    exact and_congr Iff.rfl (not_congr (Tch.iff vn rn k))
  exact ints_same (Q := Q) (j1.same gd) j2 (q _ (g22.trans gd))
end TM
end
/-! ## TW10 -/
section
namespace TM
open PySem PySem.Spec PyProof.Rows L2
theorem sX {a : Addr} {H H' : Hp} (s : Same H H') : SameX a H H' := fun b o _ e => s b o e
def nesw : List Lt := [.n, .e, .s, .w]
theorem rowS_nesw : rowS nesw = ("nesw" : Str) := by decide +kernel
theorem mem_nesw (l : Lt) : l ∈ nesw := by cases l <;> simp [nesw]
theorem FlAt.ne {H : Hp} {a b : Addr} {fl : List Cell} {n : Nat} (h : FlAt H b fl) (p : PenAt H a n) : b ≠ a := fun z => by
  obtain ⟨o, as, _, h1, _⟩ := h
  obtain ⟨x, y, t, h2, _⟩ := p
  rw [z, h2] at h1
  cases h1
theorem PenAt.ne {H : Hp} {a b : Addr} {n : Nat} (p : PenAt H a n) (h : H b = none) : b ≠ a := fun z => by
  obtain ⟨x, y, t, h2, _⟩ := p
  rw [z, h2] at h
  cases h
def s_L_drawn_stand (P : Program) (w : World) (K : PySem.W.Frag) : Sp := sp2 fun x y H Q => ∃ a b fl n, x = .ref a ∧ y = .ref b ∧ PenAt H a n ∧ n ≤ 100000 ∧ FlAt H b fl ∧ FlOk fl ∧ ∀ p st H', SameX a H H' → PenAt H' a (n + 20) → StAt H' p st → StOk fl st → Q (.ref p) H'
def s_L_drawn_row (P : Program) (w : World) (K : PySem.W.Frag) : Sp := sp4 fun x y z m H Q => ∃ a b d fl c n, x = .ref a ∧ y = .ref b ∧ z = .ref d ∧ m = .int 15 ∧ PenAt H a n ∧ n ≤ 100000 ∧ FlAt H b fl ∧ CellAt H d c ∧ ∀ r H', SameX a H H' → PenAt H' a (n + 20) → lets fl c r → r.length ≤ 15 → Q (.str (rowS r)) H'
def s_L_drawn_floor (P : Program) (w : World) (K : PySem.W.Frag) : Sp := sp2 fun x y H Q => ∃ a n m, x = .ref a ∧ y = .int m ∧ 1 ≤ m ∧ m ≤ 5 ∧ PenAt H a n ∧ n ≤ 100000 ∧ ∀ p fl H', SameX a H H' → PenAt H' a (n + 20) → FlAt H' p fl → FlOk fl → Q (.ref p) H'
theorem w_L_drawn_stand {P : Program} {w : World} {K : PySem.W.Frag} {mg : Str → Option Value} {base : Heap} (T : TX K w mg) (D : Dn K mg "_law_drawn_stand" t_L_drawn_stand) (c_L_draw : Cl P w K mg base 1 "_law_draw" (s_L_draw P w K)) (c_L_tip : Cl P w K mg base 1 "_law_tip" (s_L_tip P w K)) (c_L_pick : Cl P w K mg base 2 "_law_pick" (s_L_pick P w K)) : Cl P w K mg base 3 "_law_drawn_stand" (s_L_drawn_stand P w K) := by
  refine mk_cl D sc_L_drawn_stand (fun _ _ _ _ _ _ us hl => match us, hl with | [_, _], _ => rfl) (fun vs H Q E h => by obtain ⟨_, _, rfl, _⟩ := h; rfl) (fun f cdv A outer s H vs Q E hr h => ?_)
  obtain ⟨v0, v1, rfl, h⟩ := h
  refine ⟨_, (pss_cons (ps_set (i := 2) sc_L_drawn_stand.nd rfl (.inl rfl) (pe_tup (pa_cons pe_int (pa_cons pe_int (pa_cons pe_int pa_nil)))))
      (pss_cons (ps_for PassesOwn.never rfl (pi_range1 (by rfl) T.range (pa_cons (pe_d c_L_draw hr (by decide) (by rfl) (pa_cons (pv 0) (pa_cons pe_int pa_nil))) pa_nil)) (pg_name (i := 3) sc_L_drawn_stand.nd rfl (.inl rfl)) (pss_one (ps_set (i := 2) sc_L_drawn_stand.nd rfl (.inl rfl) (pe_d c_L_tip hr (by decide) (by rfl) (pa_cons (pv 2) (pa_cons (pe_d c_L_pick hr (by decide) (by rfl) (pa_cons (pv 0) (pa_cons pe_str pa_nil))) pa_nil))))))
      (pss_one (ps_ret (pe_tup (pa_cons (pe_d c_L_pick hr (by decide) (by rfl) (pa_cons (pv 0) (pa_cons (pv 1) pa_nil))) (pa_cons (pv 2) pa_nil))))))), ?_⟩
  obtain ⟨a, b, fl, n, rfl, rfl, hp, hn, hf, ok, q⟩ := h
  refine ⟨two_le _ (by show 3 ≤ 1000; decide), fun p0 hp0 => ?_⟩
  have s0 := same_new (o := .tup [.int 0, .int 1, .int 2]) hp0
  refine ⟨_, rfl, _, _, rfl, a, n, 9, rfl, rfl, hp.same s0, by omega, by decide, by decide, fun d H1 sx1 hp1 d0 d9 => ⟨d, rfl, by omega, by omega, ?_⟩⟩
  have x1 := (sX s0).trans sx1
  have t1 := sx1.tup (hp.same s0)
  refine for_it (walk_range (lo := 0) (n := d.toNat)) (fun i σ G => SameX a H G ∧ PenAt G a (n + 1 + i) ∧ ∃ pl y v3, σ = [some (.ref a), some (.ref b), some (.ref pl), v3] ∧ LyAt G pl y ∧ y ∈ allLy) ⟨x1, hp1, p0, (0, 1, 2), _, rfl, t1.1 _ _ upd_same, by decide⟩ (fun _ _ _ _ _ => True.intro) (fun i x σ G G' hi hP hY => ?_) (fun σ G hP => ?_)
  · obtain ⟨rfl, hx⟩ := hY
    obtain ⟨sx, hpG, pl, y, v3, rfl, hly, hym⟩ := hP
    refine ⟨_, rfl, _, rfl, _, _, rfl, a, n + 1 + i, rfl, hpG, by omega, .inr ⟨rowS nesw, congrArg V.str rowS_nesw.symm, by decide, by decide, fun c j G2 hc sx2 hp2 => ?_⟩⟩
    obtain ⟨l, e1, e2⟩ := row_sign hc
    rw [e2]
    refine ⟨_, _, rfl, pl, y, l, rfl, rfl, (sx2.tup hpG).1 _ _ hly, fun p' G3 g3 hp' => ?_⟩
    exact ⟨sx.trans (sx2.trans (sX g3)), hp2.same g3, p', _, _, rfl, hp', rol_mem hym l⟩
  · obtain ⟨sx, hpG, pl, y, v3, rfl, hly, hym⟩ := hP
    have tG := sx.tup hp
    have hfG := hf.mono tG
    obtain ⟨as, hs, hc, hl⟩ := hfG.sq (K := K)
    have h1 := ok.ne
    have h5 := ok.le
    refine ⟨_, rfl, _, rfl, _, _, rfl, a, n + 1 + d.toNat, rfl, hpG, by omega, .inl ⟨b, as.map V.ref, rfl, hfG.ne hpG, .inr hs, by rw [List.length_map]; omega, by rw [List.length_map]; omega, fun v j G2 hv sx2 hp2 => ?_⟩⟩
    obtain ⟨c0, c, rfl, e1, hcc⟩ := hc.at hv
    have t2 := sx2.tup hpG
    refine ⟨_, rfl, two_le _ (by show 2 ≤ 1000; decide), fun t ht => ?_⟩
    have s3 := same_new (o := .tup [.ref c0, .ref pl]) ht
    exact q t (c, y) _ (sx.trans (sx2.trans (sX s3))) ((hp2.same s3).le (by omega)) ⟨c0, pl, upd_same, s3 _ _ (t2.1 _ _ hcc), s3 _ _ (t2.1 _ _ hly)⟩ ⟨List.mem_of_getElem? e1, hym⟩
theorem strs_dp {K : PySem.W.Frag} {H : Hp} : ∀ ls : List Lt, DpAll K H (ls.map fun l => V.str (ltS l)) (ls.map fun l => PyData.str (ltS l))
  | [] => .nil
  | l :: ls => .cons (.str _) (strs_dp ls)
theorem strs_lay : ∀ ls : List Lt, PyData.canLayAll0 (ls.map fun l => PyData.str (ltS l)) = true
  | [] => by simp [PyData.canLayAll0]
  | l :: ls => by
    have e : PyData.strOk (ltS l) = true := str_ok (r := [l]) (by show 1 ≤ 10000; decide)
    simp [PyData.canLayAll0, PyData.canLay0, strs_lay ls, e]
theorem strs_depth : ∀ ls : List Lt, PyData.depthAll (ls.map fun l => PyData.str (ltS l)) ≤ 60
  | [] => by simp [PyData.depthAll]
  | l :: ls => by
    have := strs_depth ls
    simp only [List.map_cons, PyData.depthAll, PyData.depth]
    omega
theorem free_le (fl : List Cell) (c : Cell) : (free fl c).length ≤ 4 := List.length_filter_le _ _
theorem w_L_drawn_row {P : Program} {w : World} {K : PySem.W.Frag} {mg : Str → Option Value} {base : Heap} (T : TX K w mg) (D : Dn K mg "_law_drawn_row" t_L_drawn_row) (c_L_draw : Cl P w K mg base 1 "_law_draw" (s_L_draw P w K)) (c_L_free : Cl P w K mg base 2 "_law_free" (s_L_free P w K)) (c_L_pick : Cl P w K mg base 2 "_law_pick" (s_L_pick P w K)) (c_L_beside : Cl P w K mg base 1 "_law_beside" (s_L_beside P w K)) : Cl P w K mg base 3 "_law_drawn_row" (s_L_drawn_row P w K) := by
  refine mk_cl D sc_L_drawn_row (fun _ _ _ _ _ _ us hl => match us, hl with | [_, _, _, _], _ => rfl) (fun vs H Q E h => by obtain ⟨_, _, _, _, rfl, _⟩ := h; rfl) (fun f cdv A outer s H vs Q E hr h => ?_)
  obtain ⟨v0, v1, v2, v3, rfl, h⟩ := h
  refine ⟨_, (pss_cons (ps_set (i := 4) sc_L_drawn_row.nd rfl (.inl rfl) pe_str)
      (pss_cons (ps_for PassesOwn.never rfl (pi_range1 (by rfl) T.range (pa_cons (pe_d c_L_draw hr (by decide) (by rfl) (pa_cons (pv 0) (pa_cons (pe_op op_add (pv 3) pe_int) pa_nil))) pa_nil)) (pg_name (i := 5) sc_L_drawn_row.nd rfl (.inl rfl)) (pss_one (ps_if (pt_cmpR (op_neD hr.units) (pe_d c_L_free hr (by decide) (by rfl) (pa_cons (pv 1) (pa_cons (pv 2) pa_nil))) (pe_lst pa_nil) (nomark _)) (pss_cons (ps_set (i := 4) sc_L_drawn_row.nd rfl (.inl rfl) (pe_op op_add_str (pv 4) (pe_d c_L_pick hr (by decide) (by rfl) (pa_cons (pv 0) (pa_cons (pe_d c_L_free hr (by decide) (by rfl) (pa_cons (pv 1) (pa_cons (pv 2) pa_nil))) pa_nil)))))
      (pss_one (ps_set (i := 2) sc_L_drawn_row.nd rfl (.inl rfl) (pe_d c_L_beside hr (by decide) (by rfl) (pa_cons (pv 2) (pa_cons (pe_ix ix_str (pv 4) (pe_un un_neg pe_int) (fun _ _ => rfl)) pa_nil)))))) pss_nil)))
      (pss_one (ps_ret (pv 4))))), ?_⟩
  obtain ⟨a, b, d, fl, c, n, rfl, rfl, rfl, rfl, hp, hn, hf, hc, q⟩ := h
  refine ⟨_, rfl, _, rfl, 15, 1, rfl, rfl, _, _, rfl, a, n, 15 + 1, rfl, rfl, hp, by omega, by decide, by decide, fun k H1 sx1 hp1 d0 d1 => ⟨k, rfl, by omega, by omega, ?_⟩⟩
  refine for_it (walk_range (lo := 0) (n := k.toNat)) (fun i σ G => SameX a H G ∧ PenAt G a (n + 1 + i) ∧ ∃ pc r v5, σ = [some (.ref a), some (.ref b), some (.ref pc), some (.int 15), some (.str (rowS r)), v5] ∧ CellAt G pc (sby (c, (0, 0, 0)) r).1 ∧ lets fl c r ∧ r.length ≤ i)
    ⟨sx1, hp1, d, [], _, (by rw [rowS_nil]; rfl), (sx1.tup hp).1 _ _ hc, True.intro, Nat.le_refl _⟩ (fun _ _ _ _ _ => True.intro) (fun i x σ G G' hi hP hY => ?_) (fun σ G hP => ?_)
  · obtain ⟨rfl, hx⟩ := hY
    obtain ⟨sx, hpG, pc, r, v5, rfl, hpc, hlr, hlen⟩ := hP
    have hfG := hf.mono (sx.tup hp)
    refine ⟨_, rfl, _, rfl, _, _, rfl, b, pc, fl, _, rfl, rfl, hfG, hpc, fun f1 G1 g1 hf1 hF1 => ?_⟩
    refine ⟨two_le _ (by show 0 ≤ 1000; decide), fun e he => ?_⟩
    have ge := same_new (o := .lst []) he
    refine ne_nil (ds := (free fl (sby (c, (0, 0, 0)) r).1).map fun l => PyData.str (ltS l)) (SqL.of (ge _ _ hF1)) (strs_dp _) (strs_lay _) (strs_depth _) upd_same ⟨_, rfl, ite2 (fun cc => ?_) (fun cc => ?_)⟩
    · have hne : free fl (sby (c, (0, 0, 0)) r).1 ≠ [] := fun z => by
        rw [z] at cc
        exact absurd cc (by decide)
      have g1e := g1.trans ge
      refine ⟨_, rfl, _, rfl, _, rfl, _, rfl, _, _, rfl, b, pc, fl, _, rfl, rfl, hfG.same g1e, hpc.same g1e, fun f2 G2 g2 hf2 hF2 => ?_⟩
      have hpG2 := hpG.same (g1e.trans g2)
      have h4 := free_le fl (sby (c, (0, 0, 0)) r).1
      refine ⟨_, _, rfl, a, n + 1 + i, rfl, hpG2, by omega, .inl ⟨f2, _, rfl, (hpG.same g1e).ne hf2, .inl (SqL.of hF2), by rw [List.length_map]; exact List.length_pos_iff.mpr hne, by rw [List.length_map]; omega, fun v j G3 hv sx3 hp3 => ?_⟩⟩
      rw [List.getElem?_map] at hv
      obtain ⟨l, hl1, rfl⟩ := Option.map_eq_some_iff.mp hv
      have hlf := mem_free.mp (List.mem_of_getElem? hl1)
      refine ⟨rowS r, ltS l, rfl, rfl, ?_, ?_⟩
      · rw [rowS_length]
        show r.length + 1 ≤ sizeLine
        rw [sizeLine_eq]
        omega
      rw [rowS_snoc]
      have t3 : SameT G' G3 := (same_T (g1e.trans g2)).trans (sx3.tup hpG2)
      refine ⟨_, rfl, _, rfl, 1, rfl, rowS (r ++ [l]), -1, ltN l, rfl, rfl, ?_, ?_, ?_⟩
      · rw [rowS_length, List.length_append, sizeLine_eq]
        show r.length + 1 ≤ _
        omega
      · have e : (rowS (r ++ [l])).cps.toList = r.map ltN ++ [ltN l] := by simp [rowS]
        rw [e]
        exact atI_last _ _
      refine ⟨_, _, rfl, pc, _, l, rfl, rfl, t3.1 _ _ hpc, fun p' G4 g4 hp' => ?_⟩
      refine ⟨sx.trans ((sX (g1e.trans g2)).trans (sx3.trans (sX g4))), hp3.same g4, p', r ++ [l], _, rfl, ?_, ?_, ?_⟩
      · rw [sby_append]
        exact hp'
      · exact (lets_append fl (c, (0, 0, 0)) r [l]).mpr ⟨hlr, hlf, True.intro⟩
      · rw [List.length_append, List.length_singleton]
        omega
    · have g1e := g1.trans ge
      exact ⟨sx.trans (sX g1e), (hpG.same g1e).le (by omega), pc, r, _, rfl, hpc.same g1e, hlr, by omega⟩
  · obtain ⟨sx, hpG, pc, r, v5, rfl, hpc, hlr, hlen⟩ := hP
    exact ⟨_, rfl, q r _ sx (hpG.le (by omega)) hlr (by omega)⟩
end TM
end
/-! ## TW11 -/
section
namespace TM
open PySem PySem.Spec PyProof.Rows L2
def cellV (G : Hp) (v : V) : Int × Int := match v with
  | .ref t => (match G t with
    | some (.tup [.int x, .int y]) => (x, y)
    | _ => (0, 0))
  | _ => (0, 0)
theorem cellV_at {G : Hp} {b : Addr} {c : Cell} (h : CellAt G b c) : cellV G (.ref b) = c := by
  have h : G b = some (.tup [.int c.1, .int c.2]) := h
  simp only [cellV, h]
theorem cells_map {G : Hp} {as : List Addr} {cs : List Cell} (h : Paired (CellAt G) as cs) : (as.map V.ref).map (cellV G) = cs := by
  induction h with
  | nil => rfl
  | cons r t ih => rw [List.map_cons, List.map_cons, ih, cellV_at r]
theorem cells_back {G : Hp} : ∀ {as : List Addr}, (∀ b ∈ as, ∃ c, CellAt G b c) → Paired (CellAt G) as ((as.map V.ref).map (cellV G))
  | [], _ => .nil
  | b :: as, h => by
    obtain ⟨c, hc⟩ := h b List.mem_cons_self
    refine .cons ?_ (cells_back fun d hd => h d (List.mem_cons_of_mem _ hd))
    rw [cellV_at hc]
    exact hc
theorem cells_of {G : Hp} {as : List Addr} {cs : List Cell} (h : Paired (CellAt G) as cs) : ∀ b ∈ as, ∃ c, CellAt G b c := fun b hb => let ⟨c, _, r⟩ := paired_mem h hb; ⟨c, r⟩
/-- a list of refs, by its addresses -/
theorem refs_of : ∀ {xs : List V}, (∀ x ∈ xs, ∃ t, x = V.ref t) → ∃ as : List Addr, xs = as.map V.ref
  | [], _ => ⟨[], rfl⟩
  | x :: xs, h => by
    obtain ⟨t, rfl⟩ := h x List.mem_cons_self
    obtain ⟨as, rfl⟩ := refs_of fun y hy => h y (List.mem_cons_of_mem _ hy)
    exact ⟨t :: as, rfl⟩
theorem sorted_floor {G : Hp} {as : List Addr} {cs : List Cell} {ys : List V} (h : Paired (CellAt G) as cs) (nd : cs.Nodup) (hs : SrtO.Srtd (ltP (cellV G)) ys) (hp : ys.Perm (as.map V.ref)) :
    ∃ bs fl, ys = bs.map V.ref ∧ Paired (CellAt G) bs fl ∧ fl.Perm cs ∧ fl.Pairwise clt := by
  obtain ⟨bs, rfl⟩ := refs_of (xs := ys) fun x hx => by
    obtain ⟨b, _, rfl⟩ := List.mem_map.mp (hp.mem_iff.mp hx)
    exact ⟨b, rfl⟩
  have hb : ∀ b ∈ bs, ∃ c, CellAt G b c := fun b hb => by
    have : V.ref b ∈ as.map V.ref := hp.mem_iff.mp (List.mem_map.mpr ⟨b, hb, rfl⟩)
    obtain ⟨b', h1, h2⟩ := List.mem_map.mp this
    cases h2
    exact cells_of h b h1
  have pm : ((bs.map V.ref).map (cellV G)).Perm cs := by
    rw [← cells_map h]
    exact hp.map _
  refine ⟨bs, (bs.map V.ref).map (cellV G), rfl, cells_back hb, pm, ?_⟩
  have nd' : ((bs.map V.ref).map (cellV G)).Nodup := pm.nodup_iff.mpr nd
  have le : ((bs.map V.ref).map (cellV G)).Pairwise fun c d => SrtO.lexB d c = false := List.pairwise_map.mpr hs
  refine (le.and nd').imp fun {c d} z => ?_
  have z1 := SrtO.lexB_no.mp z.1
  have z2 : ¬ (c.1 = d.1 ∧ c.2 = d.2) := fun e => z.2 (Prod.ext e.1 e.2)
  unfold clt
  omega
theorem grd_of {c : Cell} (h1 : max c.1 c.2 < 4) (h2 : min c.1 c.2 ≥ 0) : Grd c := by
  unfold Grd
  omega
theorem of_grd {c : Cell} (h : Grd c) : max c.1 c.2 < 4 ∧ min c.1 c.2 ≥ 0 := by
  unfold Grd at h
  omega
set_option maxHeartbeats 1000000 in
theorem w_L_drawn_floor {P : Program} {w : World} {K : PySem.W.Frag} {mg : Str → Option Value} {base : Heap} (T : TX K w mg) (D : Dn K mg "_law_drawn_floor" t_L_drawn_floor) (c_L_draw : Cl P w K mg base 1 "_law_draw" (s_L_draw P w K)) (c_L_beside : Cl P w K mg base 1 "_law_beside" (s_L_beside P w K)) (c_L_pick : Cl P w K mg base 2 "_law_pick" (s_L_pick P w K)) : Cl P w K mg base 3 "_law_drawn_floor" (s_L_drawn_floor P w K) := by
  refine mk_cl D sc_L_drawn_floor (fun _ _ _ _ _ _ us hl => match us, hl with | [_, _], _ => rfl) (fun vs H Q E h => by obtain ⟨_, _, rfl, _⟩ := h; rfl) (fun f cdv A outer s H vs Q E hr h => ?_)
  obtain ⟨v0, v1, rfl, h⟩ := h
  refine ⟨_, (pss_cons (ps_set (i := 2) sc_L_drawn_floor.nd rfl (.inr rfl) (pe_lst (pa_cons (pe_tup (pa_cons (pe_d c_L_draw hr (by decide) (by rfl) (pa_cons (pv 0) (pa_cons pe_int pa_nil))) (pa_cons (pe_d c_L_draw hr (by decide) (by rfl) (pa_cons (pv 0) (pa_cons pe_int pa_nil))) pa_nil))) pa_nil)))
      (pss_cons (ps_for PassesOwn.never rfl (pi_range1 (by rfl) T.range (pa_cons (pe_d c_L_draw hr (by decide) (by rfl) (pa_cons (pv 0) (pa_cons (pv 1) pa_nil))) pa_nil)) (pg_name (i := 3) sc_L_drawn_floor.nd rfl (.inl rfl)) (pss_cons (ps_set (i := 4) sc_L_drawn_floor.nd rfl (.inl rfl) (pe_lst pa_nil))
      (pss_cons (ps_for PassesOwn.never rfl (pi_list (pv 2)) (pg_name (i := 5) sc_L_drawn_floor.nd rfl (.inr rfl)) (pss_one (ps_expr (pe_bm PySem.F.plainAttrs_list PySem.F.slot_list_extend PySem.F.type_list_extend mt_extend (pv 4) (pa_cons (pe_lc (own := [("_law_letter", 6)]) (g := (gName 6)) rfl sc_L_drawn_floor.nd (pi_str pe_str) (blkOk_by (N := N_L_drawn_floor) (sc := defScope t_L_drawn_floor) (by decide +kernel)) (fun _ _ _ _ _ => pg_name (i := 6) sc_L_drawn_floor.nd rfl (Or.inl rfl)) (fun _ _ _ _ _ => pts_nil) (fun _ _ _ _ _ => (pe_d c_L_beside hr (by decide) (by rfl) (pa_cons (pv 5) (pa_cons (pv 6) pa_nil))))) pa_nil)))))
      (pss_cons (ps_setLc (i := 4) (own := [("_law_cell", 7)]) (g := (gName 7)) rfl sc_L_drawn_floor.nd rfl rfl (sw_true rfl rfl rfl (by decide +kernel)) (pi_list (pv 4)) (blkOk_by (N := N_L_drawn_floor) (sc := defScope t_L_drawn_floor) (by decide +kernel)) (fun _ _ _ _ _ => pg_name (i := 7) sc_L_drawn_floor.nd rfl (Or.inl rfl)) (fun _ _ _ _ _ => pts_one ((pw_and (pt_cmpR (op_notInCs (un9 hr)) (pv 7) (pv 2) (by rfl)) (pw_and (pt_cmpR op_lt (pe_callB (r := rMax2 K max) (cr_max2T rfl (un9 hr)) (by rfl) T.max (by decide +kernel) (pa_cons (pv 7) pa_nil)) pe_int (nomark _)) (pw_and1 (pt_cmpR op_ge (pe_callB (r := rMax2 K min) (cr_min2T rfl (un9 hr)) (by rfl) T.min (by decide +kernel) (pa_cons (pv 7) pa_nil)) pe_int (nomark _)))))).pt) (fun _ _ _ _ _ => (pv 7)))
      (Evl.pss_cut (ps_set (i := 7) sc_L_drawn_floor.nd rfl (.inl rfl) (pe_ifExp (pt_cmpR op_eq (pe_d c_L_draw hr (by decide) (by rfl) (pa_cons (pv 0) (pa_cons pe_int pa_nil))) pe_int (nomark _)) (pe_tup (pa_cons (pe_d c_L_draw hr (by decide) (by rfl) (pa_cons (pv 0) (pa_cons pe_int pa_nil))) (pa_cons (pe_d c_L_draw hr (by decide) (by rfl) (pa_cons (pv 0) (pa_cons pe_int pa_nil))) pa_nil))) (pe_d c_L_pick hr (by decide) (by rfl) (pa_cons (pv 0) (pa_cons (pv 4) pa_nil)))))
      (pss_one (ps_if (pt_cmpR (op_notInCs (un9 hr)) (pv 7) (pv 2) (by rfl)) (pss_one (ps_expr (pe_bm PySem.F.plainAttrs_list PySem.F.slot_list_append PySem.F.type_list_append mt_append (pv 2) (pa_cons (pv 7) pa_nil)))) pss_nil)))))))
      (pss_one (ps_ret (pe_callTy call_tupleF (by rfl) T.tuple (by decide +kernel) (pa_cons (pe_callB cr_sortedPO (by rfl) T.sorted (by decide +kernel) (pa_cons (pv 2) pa_nil)) pa_nil)))))), ?_⟩
  obtain ⟨a, n, m, rfl, rfl, hm1, hm5, hp, hn, q⟩ := h
  refine ⟨_, rfl, _, _, rfl, a, n, 4, rfl, rfl, hp, by omega, by decide, by decide, fun d1 G1 x1 p1 d10 d11 => ?_⟩
  refine ⟨_, rfl, _, _, rfl, a, n + 1, 4, rfl, rfl, p1, by omega, by decide, by decide, fun d2 G2 x2 p2 d20 d21 => ⟨two_le _ (by show 2 ≤ 1000; decide), fun t ht => ⟨two_le _ (by show 1 ≤ 1000; decide), fun f hf => ?_⟩⟩⟩
  have g3 := same_new (o := .tup [.int d1, .int d2]) ht
  have g4 := same_new (o := .lst [.ref t]) hf
  have x4 := (x1.trans x2).trans (sX (g3.trans g4))
  have hfa : f ≠ a := (p2.same g3).ne hf
  have hfH : H f = none := (x1.trans x2).free hfa (g3.free hf)
  refine ⟨_, rfl, _, rfl, _, _, rfl, a, n + 2, m, rfl, rfl, (p2.same g3).same g4, by omega, hm1, by omega, fun d5 G5 x5 p5 d50 d5m => ⟨d5, rfl, by omega, by omega, ?_⟩⟩
  have t5 := x5.tup ((p2.same g3).same g4)
  refine for_it (walk_range (lo := 0) (n := d5.toNat)) (fun i σ G => ∃ v3 v4 v5 v6 v7, σ = [some (.ref a), some (.int m), some (.ref f), v3, v4, v5, v6, v7] ∧ SameX a H G ∧ PenAt G a (n + 3 + 3 * i) ∧ ∃ as cs, G f = some (.lst (as.map V.ref)) ∧ Paired (CellAt G) as cs ∧ cs.Nodup ∧ (∀ c ∈ cs, Grd c) ∧ 1 ≤ cs.length ∧ cs.length ≤ 1 + i)
    ⟨_, _, _, _, _, rfl, x4.trans x5, p5, [t], [(d1, d2)], x5 _ _ hfa upd_same, .cons (t5.1 _ _ (g4 _ _ upd_same)) .nil, List.nodup_cons.mpr ⟨List.not_mem_nil, List.nodup_nil⟩, ?_, Nat.le_refl _, Nat.le_refl _⟩ (fun _ _ _ _ _ => True.intro) (fun i x σ G G' hi hP hY => ?_) (fun σ G hP => ?_)
  · intro c hc
    have : c = (d1, d2) := by simpa using hc
    rw [this]
    show 0 ≤ d1 ∧ d1 ≤ 3 ∧ 0 ≤ d2 ∧ d2 ≤ 3
    omega
  · obtain ⟨rfl, hx⟩ := hY
    obtain ⟨v3, v4, v5, v6, v7, rfl, xG, pG, as, cs, hfG, hcs, nd, grd, l1, li⟩ := hP
    have hli : i < 5 := by omega
    refine ⟨two_le _ (by show 0 ≤ 1000; decide), fun qn hqn => ?_⟩
    have gq := same_new (o := .lst []) hqn
    have hqf : qn ≠ f := fun z => by rw [z, hfG] at hqn; cases hqn
    refine ⟨_, rfl, f, rfl, ⟨_, SqL.of (gq _ _ hfG)⟩, ?_⟩
    refine for_it (walk_list (xs := as.map V.ref)) (fun j σ Z => ∃ v3 v5 v6 v7, σ = [some (.ref a), some (.int m), some (.ref f), v3, some (.ref qn), v5, v6, v7] ∧ Same G' Z ∧ ∃ bs ds, Z qn = some (.lst (bs.map V.ref)) ∧ Paired (CellAt Z) bs ds ∧ ds.length ≤ 4 * j ∧ ∀ c ∈ cs.take j, ∀ l, bes c l ∈ ds)
      ⟨_, _, _, _, rfl, gq, [], [], upd_same, .nil, Nat.le_refl _, fun c hc => nomatch hc⟩ (fun j σ Z _ h => ?_) (fun j x σ Z Z' hj hP2 hY2 => ?_) (fun σ Z hP2 => ?_)
    · obtain ⟨_, _, _, _, _, h, _⟩ := h
      exact SqL.of (h _ _ hfG)
    · obtain ⟨rfl, hx2⟩ := hY2
      obtain ⟨v3, v5, v6, v7, rfl, gZ, bs, ds, hqZ, hbs, dl, hds⟩ := hP2
      obtain ⟨b, c, rfl, e1, hbc⟩ := pat hcs hx2
      have hbcZ := hbc.same gZ
      have hj5 : j < cs.length := (List.getElem?_eq_some_iff.mp e1).1
      have hbl := paired_len hbs
      refine ⟨_, rfl, .inl ⟨rfl, _, .inl (.inl hqZ)⟩, _, (congrArg V.str rowS_nesw.symm : V.str "nesw" = V.str (rowS nesw)), fun D hD => ?_⟩
      have hDq : qn ≠ D := fun z => by rw [← z, hqZ] at hD; cases hD
      refine lc_it (walk_str (z := rowS nesw)) (fun k Y => Same Z' Y ∧ ∃ es, Y D = some (.lst (es.map V.ref)) ∧ Paired (CellAt Y) es ((nesw.take k).map (bes c))) ⟨same_new hD, [], upd_same, .nil⟩ (fun _ _ _ _ => True.intro) (fun k x Y Y' hk hP3 hY3 => ?_) (fun Y hP3 => ?_)
      · obtain ⟨rfl, sg, hsg, rfl⟩ := hY3
        obtain ⟨gY, es, hDY, hes⟩ := hP3
        obtain ⟨l, k1, k2⟩ := row_sign hsg
        rw [k2]
        have hk4 : k < 4 := (List.getElem?_eq_some_iff.mp k1).1
        have hel := paired_len hes
        rw [List.length_map, List.length_take] at hel
        refine ⟨rfl, _, rfl, _, rfl, _, _, rfl, b, c, l, rfl, rfl, hbcZ.same gY, fun p' Y2 g2 hp' => ?_⟩
        refine ⟨_, g2 _ _ hDY, (by rw [List.length_map, sizeLine_eq]; omega), same_upd (gY.trans g2) hD, es ++ [p'], ?_, ?_⟩
        · rw [upd_same, List.map_append]
          rfl
        · have t3 : TupS Y2 (upd Y2 D (.lst (es.map V.ref ++ [.ref p']))) := TupS.upd fun xs e => by rw [g2 _ _ hDY] at e; cases e
          rw [take_at k1, List.map_append]
          exact paired_snoc (Paired.mapP hes fun _ _ e => t3 _ _ (g2 _ _ e)) (t3 _ _ hp')
      · obtain ⟨gY, es, hDY, hes⟩ := hP3
        rw [rowS_size, List.take_length] at hes
        have hel := paired_len hes
        rw [List.length_map] at hel
        have hn4 : nesw.length = 4 := rfl
        have hqY := gY _ _ hqZ
        refine ⟨qn, D, _, _, rfl, rfl, hqY, hDY, (by rw [List.length_map, List.length_map, sizeLine_eq]; omega), ?_⟩
        have t3 : TupS Y (upd Y qn (.lst (bs.map V.ref ++ es.map V.ref))) := TupS.upd fun xs e => by rw [hqY] at e; cases e
        refine ⟨_, _, _, _, rfl, same_upd (gZ.trans gY) hqn, bs ++ es, ds ++ nesw.map (bes c), ?_, ?_, ?_, ?_⟩
        · rw [upd_same, List.map_append]
        · have pa : ∀ {us : List Addr} {ws : List Cell}, Paired (CellAt (upd Y qn (.lst (bs.map V.ref ++ es.map V.ref)))) us ws → Paired (CellAt (upd Y qn (.lst (bs.map V.ref ++ es.map V.ref)))) (us ++ es) (ws ++ nesw.map (bes c)) := fun {us ws} h => by
            induction h with
            | nil => exact Paired.mapP hes fun _ _ e => t3 _ _ e
            | cons r t ih => exact .cons r ih
          exact pa (Paired.mapP hbs fun _ _ e => t3 _ _ (gY _ _ e))
        · rw [List.length_append, List.length_map]
          omega
        · intro c' hc' l
          rw [take_at e1] at hc'
          rcases List.mem_append.mp hc' with z | z
          · exact List.mem_append_left _ (hds c' z l)
          · have : c' = c := by simpa using z
            rw [this]
            exact List.mem_append_right _ (List.mem_map.mpr ⟨l, mem_nesw l, rfl⟩)
    · obtain ⟨v3, v5, v6, v7, rfl, gZ, bs, ds, hqZ, hbs, dl, hds⟩ := hP2
      rw [List.take_of_length_le (by rw [List.length_map, paired_len hcs]; exact Nat.le_refl _)] at hds
      rw [List.length_map, paired_len hcs] at dl
      have hfZ := gZ _ _ hfG
      have hcsZ : Paired (CellAt Z) as cs := Paired.mapP hcs fun _ _ e => gZ _ _ e
      -- the near cells that are free and on the grid
      refine ⟨_, rfl, qn, rfl, ⟨_, SqL.of hqZ⟩, fun D hD => ?_⟩
      refine lc_it (walk_list (xs := bs.map V.ref)) (fun k Y => Same Z Y ∧ ∃ es ks, Y D = some (.lst (es.map V.ref)) ∧ Paired (CellAt Y) es ks ∧ es.length ≤ k ∧ (∀ c ∈ ks, c ∉ cs ∧ Grd c) ∧ (∀ c ∈ ds.take k, c ∉ cs → Grd c → c ∈ ks))
        ⟨same_new hD, [], [], upd_same, .nil, Nat.le_refl _, (fun c hc => nomatch hc), fun c hc => nomatch hc⟩ (fun k Y _ h => SqL.of (h.1 _ _ hqZ)) (fun k x Y Y' hk hP3 hY3 => ?_) (fun Y hP3 => ?_)
      · obtain ⟨rfl, hx3⟩ := hY3
        obtain ⟨gY, es, ks, hDY, hes, hel, hk1, hk2⟩ := hP3
        obtain ⟨b, c, rfl, e1, hbc⟩ := pat hbs hx3
        have hbcY : CellAt Y' b c := hbc.same gY
        rw [List.length_map, paired_len hbs] at hk
        -- a cell that is not taken
        have skip : ¬ (c ∉ cs ∧ Grd c) → Same Z Y' ∧ ∃ es ks, Y' D = some (.lst (es.map V.ref)) ∧ Paired (CellAt Y') es ks ∧ es.length ≤ k + 1 ∧ (∀ c ∈ ks, c ∉ cs ∧ Grd c) ∧ (∀ c ∈ ds.take (k + 1), c ∉ cs → Grd c → c ∈ ks) := fun no => by
          refine ⟨gY, es, ks, hDY, hes, by omega, hk1, fun c' hc' z1 z2 => ?_⟩
          rw [take_at e1] at hc'
          rcases List.mem_append.mp hc' with z | z
          · exact hk2 c' z z1 z2
          · have : c' = c := by simpa using z
            rw [this] at z1 z2
            exact absurd ⟨z1, z2⟩ no
        refine ⟨rfl, _, rfl, _, rfl, b, f, c, cs, rfl, rfl, hbcY, ⟨as, gY _ _ hfZ, Paired.mapP hcsZ fun _ _ e => gY _ _ e⟩, _, rfl, ite2 (fun c1 => ?_) (fun c1 => ?_)⟩
        · have n1 : c ∉ cs := by simpa using c1
          refine ⟨_, rfl, b, c.1, c.2, rfl, SqT.of hbcY, _, _, rfl, rfl, _, rfl, ite2 (fun c2 => ?_) (fun c2 => ?_)⟩
          · have n2 := of_decide_eq_true c2
            refine ⟨_, rfl, b, c.1, c.2, rfl, SqT.of hbcY, _, _, rfl, rfl, _, rfl, ite2 (fun c3 => ?_) (fun c3 => ?_)⟩
            · have n3 := of_decide_eq_true c3
              have gc := grd_of n2 n3
              refine ⟨_, rfl, _, hDY, (by rw [List.length_map, sizeLine_eq]; omega), same_upd gY hD, es ++ [b], ks ++ [c], ?_, ?_, ?_, ?_, ?_⟩
              · rw [upd_same, List.map_append]
                rfl
              · have t3 : TupS Y' (upd Y' D (.lst (es.map V.ref ++ [.ref b]))) := TupS.upd fun xs e => by rw [hDY] at e; cases e
                exact paired_snoc (Paired.mapP hes fun _ _ e => t3 _ _ e) (t3 _ _ hbcY)
              · rw [List.length_append, List.length_singleton]
                omega
              · intro c' hc'
                rcases List.mem_append.mp hc' with z | z
                · exact hk1 c' z
                · have : c' = c := by simpa using z
                  rw [this]
                  exact ⟨n1, gc⟩
              · intro c' hc' z1 z2
                rw [take_at e1] at hc'
                rcases List.mem_append.mp hc' with z | z
                · exact List.mem_append_left _ (hk2 c' z z1 z2)
                · exact List.mem_append_right _ z
            · exact skip fun z => c3 (decide_eq_true (of_grd z.2).2)
          · exact skip fun z => c2 (decide_eq_true (of_grd z.2).1)
        · exact skip fun z => c1 (by simpa using z.1)
      obtain ⟨gY, es, ks, hDY, hes, hel, hk1, hk2⟩ := hP3
      rw [List.take_of_length_le (by rw [List.length_map, paired_len hbs]; exact Nat.le_refl _)] at hk2
      have hlks := paired_len hes
      have hkne : ks ≠ [] := fun z => by
        obtain ⟨c, hc, l, z1, z2⟩ := near_some (S := cs) (fun z => by rw [z] at l1; exact absurd l1 (by decide)) grd (by omega)
        have := hk2 _ (hds c hc l) z1 z2
        rw [z] at this
        exact nomatch this
      have gG : Same G' Y := gZ.trans gY
      have pY := pG.same gG
      have hfY := gG _ _ hfG
      have hD0 : D ≠ a := (pG.same gZ).ne hD
      -- the next cell: any of the grid, or a near one
      refine ⟨fun σ' X' => ∃ b c v3 v4 v5 v6, σ' = [some (.ref a), some (.int m), some (.ref f), v3, v4, v5, v6, some (.ref b)] ∧ SameX a Y X' ∧ PenAt X' a (n + 3 + 3 * (i + 1)) ∧ CellAt X' b c ∧ Grd c, ?_, ?_⟩
      · refine ⟨_, rfl, _, _, rfl, a, n + 3 + 3 * i, 8, rfl, rfl, pY, by omega, by decide, by decide, fun d8 Y1 y1 py1 d80 d81 => ⟨rfl, _, rfl, ite2 (fun c => ?_) (fun c => ?_)⟩⟩
        · refine ⟨_, rfl, _, _, rfl, a, n + 3 + 3 * i + 1, 4, rfl, rfl, py1, by omega, by decide, by decide, fun e1 Y2 y2 py2 e10 e11 => ?_⟩
          refine ⟨_, rfl, _, _, rfl, a, n + 3 + 3 * i + 1 + 1, 4, rfl, rfl, py2, by omega, by decide, by decide, fun e2 Y3 y3 py3 e20 e21 => ⟨two_le _ (by show 2 ≤ 1000; decide), fun t2 ht2 => ?_⟩⟩
          have g9 := same_new (o := .tup [.int e1, .int e2]) ht2
          refine ⟨t2, (e1, e2), _, _, _, _, rfl, y1.trans (y2.trans (y3.trans (sX g9))), (py3.same g9).le (by omega), upd_same, ?_⟩
          show 0 ≤ e1 ∧ e1 ≤ 3 ∧ 0 ≤ e2 ∧ e2 ≤ 3
          omega
        · refine ⟨_, rfl, _, rfl, _, _, rfl, a, n + 3 + 3 * i + 1, rfl, py1, by omega, .inl ⟨D, es.map V.ref, rfl, hD0, .inl (SqL.of (y1 _ _ hD0 hDY)), ?_, ?_, fun v j Y2 hv y2 py2 => ?_⟩⟩
          · rw [List.length_map, hlks]
            exact List.length_pos_iff.mpr hkne
          · rw [List.length_map]
            rw [List.length_map, paired_len hbs] at hel
            omega
          · obtain ⟨b, c, rfl, e1, hbc⟩ := pat hes hv
            refine ⟨b, c, _, _, _, _, rfl, y1.trans y2, py2.le (by omega), (y2.tup py1).1 _ _ ((y1.tup pY).1 _ _ hbc), (hk1 c (List.mem_of_getElem? e1)).2⟩
      · rintro σ' X' ⟨b, c, v3, v4, v5, v6, rfl, yX, pX, hbc, gc⟩
        have tX := yX.tup pY
        have hcsX : Paired (CellAt X') as cs := Paired.mapP hcs fun _ _ e => tX.1 _ _ (gG _ _ e)
        have hfX := yX _ _ hfa hfY
        have xX : SameX a H X' := xG.trans ((sX gG).trans yX)
        refine ⟨_, rfl, _, rfl, b, f, c, cs, rfl, rfl, hbc, ⟨as, hfX, hcsX⟩, _, rfl, ite2 (fun c1 => ?_) (fun c1 => ?_)⟩
        · have n1 : c ∉ cs := by simpa using c1
          refine ⟨_, rfl, .inl ⟨rfl, _, .inl (.inl hfX)⟩, _, rfl, f, _, _, rfl, rfl, hfX, (by rw [List.length_map, paired_len hcs, sizeLine_eq]; omega), ?_⟩
          have t3 : TupS X' (upd X' f (.lst (as.map V.ref ++ [.ref b]))) := TupS.upd fun xs e => by rw [hfX] at e; cases e
          refine ⟨_, _, _, _, _, rfl, ?_, ?_, as ++ [b], cs ++ [c], ?_, paired_snoc (Paired.mapP hcsX fun _ _ e => t3 _ _ e) (t3 _ _ hbc), ?_, ?_, ?_, ?_⟩
          · intro b' o ne e
            rw [upd_ne (ne_of_none e hfH)]
            exact xX _ _ ne e
          · obtain ⟨x1, x2, x3, x4, r⟩ := pX
            exact ⟨x1, x2, x3, by rw [upd_ne (Ne.symm hfa)]; exact x4, r⟩
          · rw [upd_same, List.map_append]
            rfl
          · refine List.nodup_append.mpr ⟨nd, List.nodup_cons.mpr ⟨List.not_mem_nil, List.nodup_nil⟩, fun u hu w hw z => ?_⟩
            have : w = c := by simpa using hw
            rw [z, this] at hu
            exact n1 hu
          · intro u hu
            rcases List.mem_append.mp hu with z | z
            · exact grd u z
            · have : u = c := by simpa using z
              rw [this]
              exact gc
          · rw [List.length_append]
            omega
          · rw [List.length_append, List.length_singleton]
            omega
        · exact ⟨_, _, _, _, _, rfl, xX, pX, as, cs, hfX, hcsX, nd, grd, l1, by omega⟩
  · obtain ⟨v3, v4, v5, v6, v7, rfl, xG, pG, as, cs, hfG, hcs, nd, grd, l1, li⟩ := hP
    refine ⟨_, rfl, f, as.map V.ref, cellV G, rfl, SqL.of hfG, fun x hx => ?_, fun ys p hs hb hp9 => ?_⟩
    · obtain ⟨b, hb, rfl⟩ := List.mem_map.mp hx
      obtain ⟨c, hc⟩ := cells_of hcs b hb
      exact ⟨b, rfl, by rw [cellV_at hc]; exact hc⟩
    obtain ⟨bs, fl, rfl, hbs, pm, srt⟩ := sorted_floor hcs nd hs hb.perm
    refine ⟨p, _, rfl, SqL.of upd_same, fun l o hl ho => ?_⟩
    have g1 := same_new (o := .lst (bs.map V.ref)) hp9
    have g2 := same_new (o := .frz o (.tup (bs.map V.ref))) hl
    have hlen := pm.length_eq
    refine q l fl _ (xG.trans (sX (g1.trans g2))) ((pG.same (g1.trans g2)).le (by omega)) ⟨o, bs, ho, upd_same, Paired.mapP hbs fun _ _ e => g2 _ _ (g1 _ _ e)⟩ ⟨by omega, by omega, fun c hc => grd c (pm.mem_iff.mp hc), srt⟩
end TM
end
/-! ## TW12 -/
section
namespace TM
open PySem PySem.Spec PyProof.Rows L2
theorem same_x {a : Addr} {H H1 H2 : Hp} (s : Same H H1) (h : H a = none) (x : SameX a H1 H2) : Same H H2 := fun b o e => x b o (ne_of_none e h) (s b o e)
theorem seqS {K : PySem.W.Frag} {H H' : Hp} {a : Addr} {xs : List V} (s : Same H H') (h : SqL K H a xs) : SqL K H' a xs := s.seq h
def s_law (P : Program) (w : World) (K : PySem.W.Frag) : Sp := sp1 fun x H Q => ∃ (a : Addr) (ns : List Int), x = .ref a ∧ SqL K H a (ns.map V.int) ∧ ns.length ≤ 63 ∧ ∀ H', Q (.bl true) H'
theorem mk_fn {P : Program} {w : World} {K : PySem.W.Frag} {mg : Str → Option Value} {base : Heap} {x : Str} {st : Stmt} {N ps : List Str} {k : Nat} {sp : Sp} {f : Addr} {fd : FuncData} (F : FunD K x x (defArgs st) (defBody st) (defScope st) [] [] f fd) (S : FnScope N ps (defScope st))
    (len : ∀ vs H Q E, sp vs H Q E → vs.length = ps.length)
    (body : ∀ (cdv : Value) (A : Around) (outer : List Env) (s : Shared) (H : Hp) (vs : List V) (Q : VK) (E : XK), Room k (A.deeper (envOfC x (defScope st) s.heap.objs.size f cdv)) → sp vs H Q E →
      ∃ t, PSs (cxOf CX0 P w K mg base N x (defScope st) f cdv A outer s H E).nox (defBody st) t ∧ t { nx := fun _ H' => Q .non H', rt := Q } (start N vs) H) : FnOk P w K mg base CX0 (k + 1) f fd ps sp := by
  refine F.ok S len fun cdv A outer s H vs Q E hr h => ?_
  obtain ⟨t, h1, h2⟩ := body cdv A outer s H vs Q E hr h
  exact ⟨t, h1.nox, h2⟩
set_option maxHeartbeats 1000000 in
theorem w_law {P : Program} {w : World} {K : PySem.W.Frag} {mg : Str → Option Value} {base : Heap} {f : Addr} {fd : FuncData} (T : TX K w mg) (F : FunD K "law" "law" (defArgs t_law) (defBody t_law) (defScope t_law) [] [] f fd) (c_L_pen : Cl P w K mg base 1 "_law_pen" (s_L_pen P w K)) (c_L_cell_at : Cl P w K mg base 1 "_law_cell_at" (s_L_cell_at P w K)) (c_L_drawn_floor : Cl P w K mg base 3 "_law_drawn_floor" (s_L_drawn_floor P w K)) (c_L_drawn_stand : Cl P w K mg base 3 "_law_drawn_stand" (s_L_drawn_stand P w K)) (c_L_all_spots : Cl P w K mg base 1 "_law_all_spots" (s_L_all_spots P w K)) (c_L_pick : Cl P w K mg base 2 "_law_pick" (s_L_pick P w K)) (c_bring : Cl P w K mg base 8 "bring" (s_bring P w K)) (c_L_right : Cl P w K mg base 9 "_law_right" (s_L_right P w K)) (c_L_drawn_row : Cl P w K mg base 3 "_law_drawn_row" (s_L_drawn_row P w K)) : FnOk P w K mg base CX0 10 f fd ["_law_script"] (s_law P w K) := by
  refine mk_fn F sc_law (fun vs H Q E h => by obtain ⟨_, rfl, _⟩ := h; rfl) (fun cdv A outer s H vs Q E hr h => ?_)
  obtain ⟨v0, rfl, h⟩ := h
  refine ⟨_, (pss_cons (ps_for PassesOwn.never rfl (pi_range1 (by rfl) T.range (pa_cons (pe_callB (call_max2 rfl) (by rfl) T.max (by decide +kernel) (pa_cons pe_int (pa_cons (pe_callB (call_min2 rfl) (by rfl) T.min (by decide +kernel) (pa_cons (pe_callB call_len_seq (by rfl) T.len (by decide +kernel) (pa_cons (pv 0) pa_nil)) (pa_cons pe_int pa_nil))) pa_nil))) pa_nil)) (pg_name (i := 1) sc_law.nd rfl (.inl rfl)) (pss_cons (ps_set (i := 2) sc_law.nd rfl (.inl rfl) (pe_d c_L_pen hr (by decide) (by rfl) (pa_cons (pe_d c_L_cell_at hr (by decide) (by rfl) (pa_cons (pv 0) (pa_cons (pv 1) pa_nil))) pa_nil)))
      (pss_one (ps_for PassesOwn.never rfl (pi_range1 (by rfl) T.range (pa_cons pe_int pa_nil)) (pg_name (i := 3) sc_law.nd rfl (.inl rfl)) (pss_cons (ps_set (i := 4) sc_law.nd rfl (.inl rfl) (pe_d c_L_drawn_floor hr (by decide) (by rfl) (pa_cons (pv 2) (pa_cons (pe_ix ix_list (pe_lst (pa_cons pe_int (pa_cons pe_int pa_nil))) (pv 3) (fun _ _ => rfl)) pa_nil))))
      (pss_cons (ps_par (i := 5) (j := 6) rfl sc_law.nd rfl rfl (by decide) rfl rfl (pa_cons (pe_d c_L_drawn_stand hr (by decide) (by rfl) (pa_cons (pv 2) (pa_cons (pv 4) pa_nil))) (pa_cons (pe_d c_L_all_spots hr (by decide) (by rfl) (pa_cons (pv 4) pa_nil)) pa_nil)) (by rfl))
      (pss_cons (ps_par (i := 7) (j := 8) rfl sc_law.nd rfl rfl (by decide) rfl rfl (pa_cons (pe_d c_L_pick hr (by decide) (by rfl) (pa_cons (pv 2) (pa_cons (pv 6) pa_nil))) (pa_cons (pe_d c_L_pick hr (by decide) (by rfl) (pa_cons (pv 2) (pa_cons (pv 6) pa_nil))) pa_nil)) (by rfl))
      (Evl.pss_cut (ps_asg (pe_d c_bring hr (by decide) (by rfl) (pa_cons (pv 4) (pa_cons (pv 5) (pa_cons (pv 7) (pa_cons (pv 8) pa_nil))))) (pg_tup rfl (pgs_cons (pg_name (i := 9) sc_law.nd rfl (.inl rfl)) (pgs_cons (pg_name (i := 10) sc_law.nd rfl (.inl rfl)) pgs_nil))))
      (Evl.pss_cut (ps_if ((pw_and (pt_cmpR op_eq (pv 9) pe_str (nomark _)) (pw_and1 (pt_not (pt_val (pe_d c_L_right hr (by decide) (by rfl) (pa_cons (pv 4) (pa_cons (pv 5) (pa_cons (pv 7) (pa_cons (pv 10) pa_nil)))))))))).pt (pss_one (ps_ret pe_bl)) pss_nil)
      (pss_one (ps_if (pt_not (pt_val (pe_d c_L_right hr (by decide) (by rfl) (pa_cons (pv 4) (pa_cons (pv 5) (pa_cons (pv 7) (pa_cons (pe_d c_L_drawn_row hr (by decide) (by rfl) (pa_cons (pv 2) (pa_cons (pv 4) (pa_cons (pe_ix ix_tup (pv 5) pe_int (fun _ _ => rfl)) (pa_cons pe_int pa_nil))))) pa_nil))))))) (pss_one (ps_ret pe_bl)) pss_nil)))))))))))
      (pss_one (ps_ret pe_bl))), ?_⟩
  obtain ⟨sc, ns, rfl, hsc, hn, q⟩ := h
  refine ⟨_, rfl, sc, _, rfl, .inl hsc, _, 3, rfl, 1, _, rfl, _, rfl, ?_, ?_, ?_⟩
  · split <;> split <;> omega
  · split <;> split <;> omega
  refine for_it (walk_range (lo := 0)) (fun i σ G => Same H G ∧ ∃ v1 v2 v3 v4 v5 v6 v7 v8 v9 v10, σ = [some (.ref sc), v1, v2, v3, v4, v5, v6, v7, v8, v9, v10]) ⟨Same.refl H, _, _, _, _, _, _, _, _, _, _, rfl⟩ (fun _ _ _ _ _ => True.intro) (fun i x σ G G' hi hP hY => ?_) (fun σ G hP => ?_)
  · obtain ⟨rfl, hx⟩ := hY
    have hx : x = .int (i : Nat) := hx.trans (congrArg V.int (Int.zero_add _))
    subst hx
    obtain ⟨sG, v1, v2, v3, v4, v5, v6, v7, v8, v9, v10, rfl⟩ := hP
    refine ⟨_, rfl, _, rfl, _, _, rfl, sc, ns, i, rfl, rfl, seqS sG hsc, Int.natCast_nonneg i, fun ce => ?_⟩
    refine ⟨_, rfl, ce, rfl, fun p G1 g1 hp hpen => ?_⟩
    have hpH : H p = none := sG.free hp
    refine ⟨2, rfl, by decide, by decide, ?_⟩
    refine for_it (walk_range (lo := 0) (n := 2)) (fun j σ Y => Same H Y ∧ PenAt Y p (100 * j) ∧ ∃ v1 v3 v4 v5 v6 v7 v8 v9 v10, σ = [some (.ref sc), v1, some (.ref p), v3, v4, v5, v6, v7, v8, v9, v10]) ⟨sG.trans g1, hpen, _, _, _, _, _, _, _, _, _, rfl⟩ (fun _ _ _ _ _ => True.intro) (fun j x σ Y Y' hj hP2 hY2 => ?_) (fun σ Y hP2 => ?_)
    · obtain ⟨rfl, hx2⟩ := hY2
      have hx2 : x = .int (j : Nat) := hx2.trans (congrArg V.int (Int.zero_add _))
      subst hx2
      obtain ⟨sY, pY, v1, v3, v4, v5, v6, v7, v8, v9, v10, rfl⟩ := hP2
      obtain ⟨m, hm, hm1, hm5⟩ : ∃ m : Int, ([.int 5, .int 3] : List V)[j]? = some (.int m) ∧ 1 ≤ m ∧ m ≤ 5 := by
        have h2 : j < 2 := hj
        have : j = 0 ∨ j = 1 := by omega
        rcases this with e | e
        · exact ⟨5, by rw [e]; rfl, by decide, by decide⟩
        · exact ⟨3, by rw [e]; rfl, by decide, by decide⟩
      refine ⟨_, rfl, two_le _ (by show 2 ≤ 1000; decide), fun l0 hl0 => ?_⟩
      have g0 := same_new (o := .lst [.int 5, .int 3]) hl0
      refine ⟨_, rfl, l0, _, (j : Nat), _, rfl, rfl, SqL.of upd_same, atI_nat hm, _, _, rfl, p, 100 * j, m, rfl, rfl, hm1, hm5, pY.same g0, by omega, fun fa fl Y1 x1 p1 hf1 ok => ?_⟩
      have sY1 := same_x (sY.trans g0) hpH x1
      -- stand, spots
      refine ⟨_, rfl, _, rfl, _, _, rfl, p, fa, fl, _, rfl, rfl, p1, by omega, hf1, ok, fun sa st Y2 x2 p2 hst so => ?_⟩
      have sY2 := same_x sY1 hpH x2
      have hf2 := hf1.mono (x2.tup p1)
      refine ⟨_, rfl, _, rfl, fa, fl, rfl, hf2, ok, fun la Y3 g3 hn3 hl3 => ⟨_, _, rfl, ?_⟩⟩
      have sY3 := sY2.trans g3
      have p3 := p2.same g3
      have hlp : la ≠ p := p2.ne hn3
      have h5 := ok.le
      have hll : ((ids (6 + fl.length)).map V.int).length = 6 + fl.length := by rw [List.length_map, ids_length]
      -- spot, to
      refine ⟨_, rfl, _, rfl, _, _, rfl, p, _, rfl, p3, by omega, .inl ⟨la, _, rfl, hlp, .inl (SqL.of hl3), by omega, by omega, fun w1 i1 Y4 hw1 x4 p4 => ?_⟩⟩
      have sY4 := same_x sY3 hpH x4
      have hl4 := x4 _ _ hlp hl3
      refine ⟨_, rfl, _, rfl, _, _, rfl, p, _, rfl, p4, by omega, .inl ⟨la, _, rfl, hlp, .inl (SqL.of hl4), by omega, by omega, fun w2 i2 Y5 hw2 x5 p5 => ⟨_, _, rfl, ?_⟩⟩⟩
      have sY5 := same_x sY4 hpH x5
      have inS : ∀ {w : V} {i : Nat}, ((ids (6 + fl.length)).map V.int)[i]? = some w → ∃ k, w = .int k ∧ InS fl k := fun {w i} h => by
        obtain ⟨k, hk, rfl⟩ := List.mem_map.mp (List.mem_of_getElem? h)
        have := mem_ids.mp hk
        exact ⟨k, rfl, this.1, by omega⟩
      obtain ⟨sp, rfl, hsp⟩ := inS hw1
      obtain ⟨to, rfl, hto⟩ := inS hw2
      have t35 : SameT Y3 Y5 := (x4.tup p3).trans (x5.tup p4)
      have hf5 := (hf2.same g3).mono t35
      have hst5 : StAt Y5 sa st := (hst.same g3).mono t35.1
      refine ⟨fun σ Z => Same Y5 Z ∧ ∃ v1 wd tl, σ = [some (.ref sc), v1, some (.ref p), some (.int (j : Nat)), some (.ref fa), some (.ref sa), some (.ref la), some (.int sp), some (.int to), some wd, some tl] ∧ (wd = .str "never" ∨ ∃ r, wd = .str "row" ∧ tl = .str (rowS r) ∧ lets fl st.1 r ∧ r.length ≤ 1440), ?_, ?_⟩
      · refine ⟨_, rfl, _, rfl, _, rfl, _, rfl, _, _, _, _, rfl, fa, sa, fl, st, sp, to, rfl, rfl, rfl, rfl, hf5, ok, hst5, so, hsp, hto, fun pp v Y6 g6 e6 => ?_, fun pp r Y6 g6 e6 hq hz => ?_⟩
        · exact ⟨pp, _, rfl, SqT.of e6, rfl, _, _, rfl, _, _, rfl, rfl, g6, _, _, _, rfl, .inl rfl⟩
        · obtain ⟨q', hq1, hq2⟩ := hq
          exact ⟨pp, _, rfl, SqT.of e6, rfl, _, _, rfl, _, _, rfl, rfl, g6, _, _, _, rfl, .inr ⟨r, rfl, rfl, (mvs_lets hq1).1, hz⟩⟩
      rintro σ Z ⟨g6, v1', wd, tl, rfl, hw⟩
      refine ⟨fun σ Z' => Same Z Z' ∧ σ = [some (.ref sc), v1', some (.ref p), some (.int (j : Nat)), some (.ref fa), some (.ref sa), some (.ref la), some (.int sp), some (.int to), some wd, some tl], ?_, ?_⟩
      · rcases hw with rfl | ⟨r, rfl, rfl, hlr, hz⟩
        · refine ⟨_, rfl, rfl, _, rfl, ite2 (fun c => ?_) (fun c => ?_)⟩
          · exact absurd (V.str.inj (of_decide_eq_true c)) (by decide +kernel)
          · exact ⟨Same.refl Z, rfl⟩
        · refine ⟨_, rfl, rfl, _, rfl, ite2 (fun c => ?_) (fun c => absurd (decide_eq_true rfl) c)⟩
          refine ⟨_, rfl, _, rfl, _, rfl, _, rfl, _, _, _, _, rfl, fa, sa, fl, st, sp, r, rfl, rfl, rfl, rfl, hf5.same g6, ok, hst5.same g6, so, hsp, hlr, hz, fun Z' gz => ⟨true, rfl, ?_⟩⟩
          exact ⟨gz, rfl⟩
      rintro σ Z' ⟨gz, rfl⟩
      have g56 := g6.trans gz
      have pZ := p5.same g56
      obtain ⟨ca, ya, h0, hca, hya⟩ := hst5.same g56
      have hst6 : StAt Z' sa st := hst5.same g56
      refine ⟨_, rfl, _, rfl, _, rfl, _, rfl, _, rfl, _, rfl, sa, _, 0, _, rfl, rfl, SqT.of h0, rfl, _, _, _, _, rfl, p, fa, ca, fl, st.1, _, rfl, rfl, rfl, rfl, pZ, by omega, hf5.same g56, hca, fun r Y7 x7 p7 hlr hr15 => ?_⟩
      have t7 := x7.tup pZ
      refine ⟨_, _, _, _, rfl, fa, sa, fl, st, sp, r, rfl, rfl, rfl, rfl, (hf5.same g56).mono t7, ok, hst6.mono t7.1, so, hsp, hlr, by omega, fun Y8 g8 => ⟨true, rfl, ?_⟩⟩
      exact ⟨(same_x (sY5.trans g56) hpH x7).trans g8, (p7.same g8).le (by omega), _, _, _, _, _, _, _, _, _, rfl⟩
    · obtain ⟨sY, pY, v1, v3, v4, v5, v6, v7, v8, v9, v10, rfl⟩ := hP2
      exact ⟨sY, _, _, _, _, _, _, _, _, _, _, rfl⟩
  · exact q G
end TM
end
/-! ## THead -/
section
set_option maxHeartbeats 0
namespace TM
open PySem PySem.Spec PyProof.Rows L2
/-- the tuple that the table x has at the key k -/
def stepAd (K : PySem.W.Frag) (k : Str) : Addr := match PySem.W.nsIn K (He.ga K "STEPS") k with
  | some (some (.ref t)) => t
  | _ => 0
def stepB (K : PySem.W.Frag) (k : Str) (a b : Int) : Bool := He.eqO (PySem.W.nsIn K (He.ga K "STEPS") k) (some (some (.ref (stepAd K k)))) && (match K.lookup (stepAd K k) with
  | some ⟨.type c, _, .seq its _, _⟩ => decide (c = "tuple") && (decide (its.size ≤ sizeLine) && He.relAll [V.int a, V.int b] its.toList)
  | _ => false)
def exB (K : PySem.W.Frag) : Bool := stepB K "e" 1 0 && (stepB K "n" 0 1 && (stepB K "s" 0 (-1) && (stepB K "w" (-1) 0 && He.valsB K (He.ga K "BACK") [("e", .str "w"), ("n", .str "s"), ("s", .str "n"), ("w", .str "e")])))
def tsL : List He.Tab := [(fun K => He.ga K "STEPS", ["e", "n", "s", "w"]), (fun K => He.ga K "BACK", ["e", "n", "s", "w"])]
abbrev RR : PySem.W.OpenRow := PySem.W.OpenLaw.row PySem.Challenge.rw_tumblemarks_k27_whole_brought_and_brough
abbrev hkL : PySem.W.Hook := He.hookX 4 faL fnL1 tsL [] exB
def obL (s : PySem.W.SharedT) : He.AlX := He.obsX 4 faL fnL1 tsL [] exB (HandSHeadRun.getT s)
theorem obL_eq (s : PySem.W.SharedT) : obL s = hkL.obs s.abs := He.obsX_eq (HandSHeadRun.getT_eq s)
theorem runF (w : World) : HandSHeadRun.RunEq RR (PySem.W.view RR.prog [76]) hkL obL 9000 looseL (w.withFollow "special-get-raises" false) := by
  intro os
  kernel_rfl
theorem runT (w : World) : HandSHeadRun.RunEq RR (PySem.W.view RR.prog [76]) hkL obL 9000 looseL (w.withFollow "special-get-raises" true) := by
  intro os
  kernel_rfl
theorem runL (w : World) : HandSHeadRun.RunEq RR (PySem.W.view RR.prog [76]) hkL obL 9000 looseL w :=
  PySem.W.byRow2 "special-get-raises" (P := fun w => HandSHeadRun.RunEq RR (PySem.W.view RR.prog [76]) hkL obL 9000 looseL w) runF runT w
end TM
end
/-! ## TEnd -/
set_option maxHeartbeats 0
namespace TM
open PySem PySem.Spec PyProof.Rows L2
section
variable {P : Program} {w : World} {K : PySem.W.Frag} {h : Heap} {mg : Str → Option Value} {base : Heap}
theorem dn_of (X : K.In h) (G : h.Ns mainGlobals mg) (c : He.SaysD faL fnL1 K) {x : Str} {st : Stmt} (i j : Nat) (hf : faL[i]? = some (.glo x)) (hd : fnL1[j]? = some ⟨(x, none), x, x, defArgs st, defBody st, defScope st, [], []⟩) : Dn K mg x st := by
  obtain ⟨fd, F⟩ := c.def_ j hd
  exact ⟨_, fd, F, He.glo_ok X G (c.fact i hf)⟩
theorem stepB_ok {k : Str} {a b : Int} (h : stepB K k a b = true) : PySem.W.nsIn K (He.ga K "STEPS") k = some (some (.ref (stepAd K k))) ∧ ∀ H : Hp, SqT K H (stepAd K k) [.int a, .int b] := by
  unfold stepB at h
  obtain ⟨h1, h2⟩ := He.ba h
  refine ⟨He.eqO_ok h1, fun H => ?_⟩
  cases q : K.lookup (stepAd K k) with
  | none =>
    rw [q] at h2
    cases h2
  | some o =>
    obtain ⟨oc, od, dt, osl⟩ := o
    rw [q] at h2
    cases oc with
    | type c =>
      cases dt with
      | seq its n =>
        obtain ⟨h3, h4⟩ := He.ba (show (decide (c = "tuple") && (decide (its.size ≤ sizeLine) && He.relAll [V.int a, V.int b] its.toList)) = true from h2)
        obtain ⟨h5, h6⟩ := He.ba h4
        exact .inr ⟨_, its, n, q, congrArg Value.type (of_decide_eq_true h3), rfl, of_decide_eq_true h5, He.relAll_ok h6⟩
      | _ => cases h2
    | _ => cases dt <;> cases h2
theorem tab_at {S : Addr} {es : Array DictEntry} {n : Nat} (D : KDict K w S es n) {x : Str} {u : Value} {v : V} (e : PySem.W.nsIn K S x = some (some u)) (r : RelV v u) : KDct K w S x v := ⟨es, n, u, D.at_, D.lit, e, r⟩
theorem tx_of (X : K.In h) (G : h.Ns mainGlobals mg) (s : He.SaysX faL fnL1 tsL [] exB w h K) : TX K w mg := by
  have c : He.SaysD faL fnL1 K := s.t.d
  obtain ⟨es, n, D1⟩ := s.t.tab 0
  obtain ⟨es2, n2, D2⟩ := s.t.tab 1
  obtain ⟨m1, m⟩ := He.ba s.more
  obtain ⟨m2, m⟩ := He.ba m
  obtain ⟨m3, m⟩ := He.ba m
  obtain ⟨m4, m5⟩ := He.ba m
  exact {
  isi := He.free_ok X G (c.fact 52 rfl)
  int := He.free_ok X G (c.fact 53 rfl)
  bool := He.free_ok X G (c.fact 54 rfl)
  tuple := He.free_ok X G (c.fact 55 rfl)
  str := He.free_ok X G (c.fact 56 rfl)
  len := He.free_ok X G (c.fact 57 rfl)
  all := He.free_ok X G (c.fact 58 rfl)
  zip := He.free_ok X G (c.fact 59 rfl)
  min := He.free_ok X G (c.fact 60 rfl)
  max := He.free_ok X G (c.fact 61 rfl)
  list := He.free_ok X G (c.fact 62 rfl)
  range := He.free_ok X G (c.fact 63 rfl)
  enum := He.free_ok X G (c.fact 64 rfl)
  sorted := He.free_ok X G (c.fact 65 rfl)
  wide := He.int_ok X G (c.fact 66 rfl)
  cells := He.int_ok X G (c.fact 67 rfl)
  last := He.int_ok X G (c.fact 68 rfl)
  faces := He.int_ok X G (c.fact 69 rfl)
  nowh := He.int_ok X G (c.fact 70 rfl)
  lets := He.str_ok X G (c.fact 71 rfl)
  row := He.str_ok X G (c.fact 72 rfl)
  never := He.str_ok X G (c.fact 73 rfl)
  steps := ⟨_, He.glo_ok X G (c.fact 50 rfl), fun l => by
    cases l with
    | e => rw [ltS_e]; exact ⟨_, tab_at D1 (stepB_ok m1).1 rfl, (stepB_ok m1).2⟩
    | n => rw [ltS_n]; exact ⟨_, tab_at D1 (stepB_ok m2).1 rfl, (stepB_ok m2).2⟩
    | s => rw [ltS_s]; exact ⟨_, tab_at D1 (stepB_ok m3).1 rfl, (stepB_ok m3).2⟩
    | w => rw [ltS_w]; exact ⟨_, tab_at D1 (stepB_ok m4).1 rfl, (stepB_ok m4).2⟩⟩
  back := ⟨_, He.glo_ok X G (c.fact 51 rfl), fun l => by
    cases l with
    | e =>
      obtain ⟨u, e1, e2⟩ := He.valsB_ok m5 (q := ("e", .str "w")) (.head _)
      show KDct K w _ (ltS .e) (.str (ltS .w))
      rw [ltS_e, ltS_w]
      exact tab_at D2 e1 e2
    | n =>
      obtain ⟨u, e1, e2⟩ := He.valsB_ok m5 (q := ("n", .str "s")) (.tail _ (.head _))
      show KDct K w _ (ltS .n) (.str (ltS .s))
      rw [ltS_n, ltS_s]
      exact tab_at D2 e1 e2
    | s =>
      obtain ⟨u, e1, e2⟩ := He.valsB_ok m5 (q := ("s", .str "n")) (.tail _ (.tail _ (.head _)))
      show KDct K w _ (ltS .s) (.str (ltS .n))
      rw [ltS_s, ltS_n]
      exact tab_at D2 e1 e2
    | w =>
      obtain ⟨u, e1, e2⟩ := He.valsB_ok m5 (q := ("w", .str "e")) (.tail _ (.tail _ (.tail _ (.head _))))
      show KDct K w _ (ltS .w) (.str (ltS .e))
      rw [ltS_w, ltS_e]
      exact tab_at D2 e1 e2⟩ }
theorem law_fn (X : K.In h) (G : h.Ns mainGlobals mg) (s : He.SaysX faL fnL1 tsL [] exB w h K) {f : Addr} {fd : FuncData} (F : FunD K "law" "law" (defArgs t_law) (defBody t_law) (defScope t_law) [] [] f fd) : FnOk P w K mg base CX0 10 f fd ["_law_script"] (s_law P w K) := by
  have c : He.SaysD faL fnL1 K := s.t.d
  have T : TX K w mg := tx_of X G s
  have c_is_whole := w_is_whole (P := P) (w := w) (base := base) T (dn_of (st := t_is_whole) X G c 0 0 rfl rfl)
  have c_is_among := w_is_among (P := P) (w := w) (base := base) T (dn_of (st := t_is_among) X G c 1 1 rfl rfl) c_is_whole
  have c_are_some := w_are_some (P := P) (w := w) (base := base) T (dn_of (st := t_are_some) X G c 2 2 rfl rfl)
  have c_rises := w_rises (P := P) (w := w) (base := base) T (dn_of (st := t_rises) X G c 3 3 rfl rfl)
  have c_is_cell := w_is_cell (P := P) (w := w) (base := base) T (dn_of (st := t_is_cell) X G c 4 4 rfl rfl) c_are_some c_is_among
  have c_is_floor := w_is_floor (P := P) (w := w) (base := base) T (dn_of (st := t_is_floor) X G c 5 5 rfl rfl) c_are_some c_is_cell c_rises
  have c_need_floor := w_need_floor (P := P) (w := w) (base := base) T (dn_of (st := t_need_floor) X G c 6 6 rfl rfl) c_is_floor
  have c_is_cell_of := w_is_cell_of (P := P) (w := w) (base := base) T (dn_of (st := t_is_cell_of) X G c 7 7 rfl rfl) c_is_cell
  have c_need_cell := w_need_cell (P := P) (w := w) (base := base) T (dn_of (st := t_need_cell) X G c 8 8 rfl rfl) c_is_cell_of
  have c_is_lying := w_is_lying (P := P) (w := w) (base := base) T (dn_of (st := t_is_lying) X G c 9 9 rfl rfl) c_are_some c_is_among
  have c_need_lying := w_need_lying (P := P) (w := w) (base := base) T (dn_of (st := t_need_lying) X G c 10 10 rfl rfl) c_is_lying
  have c_rolled := w_rolled (P := P) (w := w) (base := base) T (dn_of (st := t_rolled) X G c 11 11 rfl rfl)
  have c_need_row := w_need_row (P := P) (w := w) (base := base) T (dn_of (st := t_need_row) X G c 12 12 rfl rfl)
  have c_beside := w_beside (P := P) (w := w) (base := base) T (dn_of (st := t_beside) X G c 13 13 rfl rfl)
  have c_off_at := w_off_at (P := P) (w := w) (base := base) T (dn_of (st := t_off_at) X G c 14 14 rfl rfl) c_beside
  have c_need_let := w_need_let (P := P) (w := w) (base := base) T (dn_of (st := t_need_let) X G c 15 15 rfl rfl) c_off_at
  have c_stand_by := w_stand_by (P := P) (w := w) (base := base) T (dn_of (st := t_stand_by) X G c 16 16 rfl rfl) c_beside c_rolled
  have c_stand_behind := w_stand_behind (P := P) (w := w) (base := base) T (dn_of (st := t_stand_behind) X G c 17 17 rfl rfl) c_need_floor c_need_cell c_need_lying c_need_row c_need_let c_stand_by
  have c_is_stand := w_is_stand (P := P) (w := w) (base := base) T (dn_of (st := t_is_stand) X G c 18 18 rfl rfl) c_are_some c_is_cell_of c_is_lying
  have c_need_stand := w_need_stand (P := P) (w := w) (base := base) T (dn_of (st := t_need_stand) X G c 19 19 rfl rfl) c_need_floor c_is_stand
  have c_spots_of := w_spots_of (P := P) (w := w) (base := base) T (dn_of (st := t_spots_of) X G c 20 20 rfl rfl)
  have c_need_rolls := w_need_rolls (P := P) (w := w) (base := base) T (dn_of (st := t_need_rolls) X G c 21 21 rfl rfl) c_need_stand c_need_row c_need_let
  have c_traded := w_traded (P := P) (w := w) (base := base) T (dn_of (st := t_traded) X G c 22 22 rfl rfl) c_beside c_rolled
  have c_turned_round := w_turned_round (P := P) (w := w) (base := base) T (dn_of (st := t_turned_round) X G c 23 23 rfl rfl)
  have c_exchange_by := w_exchange_by (P := P) (w := w) (base := base) T (dn_of (st := t_exchange_by) X G c 24 24 rfl rfl) c_turned_round c_traded c_spots_of
  have c_exchange := w_exchange (P := P) (w := w) (base := base) T (dn_of (st := t_exchange) X G c 25 25 rfl rfl) c_need_rolls c_exchange_by
  have c_moved := w_moved (P := P) (w := w) (base := base) T (dn_of (st := t_moved) X G c 26 26 rfl rfl) c_beside c_rolled
  have c_spread := w_spread (P := P) (w := w) (base := base) T (dn_of (st := t_spread) X G c 27 27 rfl rfl) c_moved
  have c_need_spot := w_need_spot (P := P) (w := w) (base := base) T (dn_of (st := t_need_spot) X G c 28 28 rfl rfl) c_is_among c_spots_of
  have c_need_wish := w_need_wish (P := P) (w := w) (base := base) T (dn_of (st := t_need_wish) X G c 29 29 rfl rfl) c_need_stand c_need_spot
  have c_bring_by := w_bring_by (P := P) (w := w) (base := base) T (dn_of (st := t_bring_by) X G c 30 30 rfl rfl) c_spread
  have c_bring := w_bring (P := P) (w := w) (base := base) T (dn_of (st := t_bring) X G c 31 31 rfl rfl) c_need_wish c_bring_by
  have c_does_bring := w_does_bring (P := P) (w := w) (base := base) T (dn_of (st := t_does_bring) X G c 32 32 rfl rfl) c_moved
  have c_shows_bring := w_shows_bring (P := P) (w := w) (base := base) T (dn_of (st := t_shows_bring) X G c 33 33 rfl rfl) c_need_wish c_are_some c_does_bring
  have c_may_come := w_may_come (P := P) (w := w) (base := base) T (dn_of (st := t_may_come) X G c 34 34 rfl rfl) c_need_stand c_need_spot c_spread
  have c_still := w_still (P := P) (w := w) (base := base) T (dn_of (st := t_still) X G c 35 35 rfl rfl) c_need_stand c_spread c_beside c_rolled c_spots_of
  have c_undoing := w_undoing (P := P) (w := w) (base := base) T (dn_of (st := t_undoing) X G c 36 36 rfl rfl) c_need_rolls
  have c_L_cell_at := w_L_cell_at (P := P) (w := w) (base := base) T (dn_of (st := t_L_cell_at) X G c 37 37 rfl rfl)
  have c_L_pen := w_L_pen (P := P) (w := w) (base := base) T (dn_of (st := t_L_pen) X G c 38 38 rfl rfl)
  have c_L_draw := w_L_draw (P := P) (w := w) (base := base) T (dn_of (st := t_L_draw) X G c 39 39 rfl rfl)
  have c_L_pick := w_L_pick (P := P) (w := w) (base := base) T (dn_of (st := t_L_pick) X G c 40 40 rfl rfl) c_L_draw
  have c_L_beside := w_L_beside (P := P) (w := w) (base := base) T (dn_of (st := t_L_beside) X G c 41 41 rfl rfl)
  have c_L_tip := w_L_tip (P := P) (w := w) (base := base) T (dn_of (st := t_L_tip) X G c 42 42 rfl rfl)
  have c_L_drawn_floor := w_L_drawn_floor (P := P) (w := w) (base := base) T (dn_of (st := t_L_drawn_floor) X G c 43 43 rfl rfl) c_L_draw c_L_beside c_L_pick
  have c_L_drawn_stand := w_L_drawn_stand (P := P) (w := w) (base := base) T (dn_of (st := t_L_drawn_stand) X G c 44 44 rfl rfl) c_L_draw c_L_tip c_L_pick
  have c_L_free := w_L_free (P := P) (w := w) (base := base) T (dn_of (st := t_L_free) X G c 45 45 rfl rfl) c_L_beside
  have c_L_drawn_row := w_L_drawn_row (P := P) (w := w) (base := base) T (dn_of (st := t_L_drawn_row) X G c 46 46 rfl rfl) c_L_draw c_L_free c_L_pick c_L_beside
  have c_L_all_spots := w_L_all_spots (P := P) (w := w) (base := base) T (dn_of (st := t_L_all_spots) X G c 47 47 rfl rfl)
  have c_L_right := w_L_right (P := P) (w := w) (base := base) T (dn_of (st := t_L_right) X G c 48 48 rfl rfl) c_stand_behind c_exchange c_undoing c_shows_bring c_L_all_spots c_may_come c_still
  exact w_law T F c_L_pen c_L_cell_at c_L_drawn_floor c_L_drawn_stand c_L_all_spots c_L_pick c_bring c_L_right c_L_drawn_row
theorem facts (X : K.In h) (G : h.Ns mainGlobals mg) {f : Addr} (hfa : mg ("law" : Str) = some (.ref f)) (s : He.SaysX faL fnL1 tsL [] exB w h K) :
    ∃ fd : FuncData, (∀ (t : Shared) (v : Value), BindsTo t fd ⟨[v], []⟩ [("_law_script", v)]) ∧ ∀ base : Heap, K.In base → base.Ns mainGlobals mg → FnOk P w K mg base CX0 10 f fd ["_law_script"] (s_law P w K) := by
  have c : He.SaysD faL fnL1 K := s.t.d
  obtain ⟨fd, F⟩ := c.def_ 49 (d := ⟨("law", none), "law", "law", defArgs t_law, defBody t_law, defScope t_law, [], []⟩) rfl
  have e := hfa.symm.trans (He.glo_ok X G (c.fact 49 (f := .glo "law") rfl))
  cases e
  have b := FunD.bindsA (ps := ["_law_script"]) F fun _ _ _ _ _ _ us hl => match us, hl with | [_], _ => rfl
  exact ⟨fd, fun t v => b t [v] rfl, fun base _ _ => law_fn X G s F⟩
end
end TM
open PySem PySem.W PySem.Calls PyProof.Rows
theorem PySem.Challenge.cw_tumblemarks_k27_whole_brought_and_brough_holds : PySem.Challenge.rw_tumblemarks_k27_whole_brought_and_brough.Holds := by
  w_on; o_law
  refine HandSHeadRun.head_any (r := TM.RR) (q := view TM.RR.prog [76]) (H := TM.hkL) (ob := TM.obL) (M := 9000) (loose := TM.looseL) (d := HandSHeadRun.topDef TM.RR.prog 76) (kwd := []) TM.obL_eq
    (by kernel_rfl) (fun s => by kernel_rfl) TM.runL (by kernel_rfl) (by kernel_rfl) (by kernel_rfl) (by rfl) (by first | assumption | decide +kernel) (by decide +kernel) ⟨rfl, rfl, rfl, rfl, rfl, by decide +kernel⟩ ?hw ?hc
  case hw => w_witness2
  case hc =>
    refine L2.walk_ofE (l := PySem.Challenge.rw_tumblemarks_k27_whole_brought_and_brough) (n := 63) (k := 10) (x := "_law_script") (CX := L2.CX0) rfl (by decide) (by kernel_rfl) ⟨rfl, by decide, by decide⟩ ?F (fun _ _ _ _ z => z)
    intro w mg fa h Y G hmg0
    obtain ⟨K, KX, c⟩ := Y
    have hmg : mg ("law" : PySem.Str) = some (.ref fa) := by
      have e : (HandSHeadRun.topDef TM.RR.prog 76).name = ("law" : PySem.Str) := by kernel_rfl
      rw [← e]
      exact hmg0
    obtain ⟨fd, hb, hF⟩ := TM.facts (P := (PySem.Challenge.rw_tumblemarks_k27_whole_brought_and_brough).prog) (w := w) KX G hmg c
    exact ⟨K, fd, TM.s_law _ w K, KX, hb, fun H a ns hl _ hS => ⟨_, rfl, a, ns, rfl, hS, hl, fun _ => rfl⟩, hF⟩
#print axioms PySem.Challenge.cw_tumblemarks_k27_whole_brought_and_brough_holds
